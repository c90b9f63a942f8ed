/- Which label may stand for which. Conditions: none. -/
import Derived.Test.YtjlphfbpaejicaaL6
import Derived.Test.YtjlphfbpaejicaaDiaA
namespace Go.Proofs.Ytjlphfbpaejicaa
open Go Dv
set_option linter.unusedSimpArgs false
set_option linter.unusedVariables false
set_option maxRecDepth 100000


theorem index_first (l : List Int) (n : Int) (h : l.length < 1099511627776) : g_slices_Index_Sint_int l n = some (match firstIx l.length (fun i => decide (n = l.getD i default)) with | some i => (i : Int) | none => -1) := by
  have key := itO_find (fun v => g_slices_Index_Sint_int_l0_S l n v) (fun i => (i : Int)) l.length (fun i => decide (n = l.getD i default)) (fun i => .inl (i : Int)) (.inr ()) ?_ ?_
  · unfold g_slices_Index_Sint_int g_slices_Index_Sint_int_l0
    rw [Int.natCast_zero] at key
    rw [key]
    cases firstIx l.length (fun i => decide (n = l.getD i default)) <;> rfl
  · intro i hi
    simp only [g_slices_Index_Sint_int_l0_S]
    rw [if_pos (lt_nat hi), ckT (ix_nat hi), Int.toNat_natCast, wrS i (by omega)]
    by_cases e : n = l.getD i default
    · rw [if_pos e, decide_eq_true e, if_pos rfl]
    · rw [if_neg e, decide_eq_false e, if_neg (by decide)]
  · simp only [g_slices_Index_Sint_int_l0_S]; rw [if_neg (not_lt_nat _)]
theorem sortI_same_of {l m : List Int} (h : l.Perm m) : sortI l = sortI m :=
  List.Perm.eq_of_pairwise (le := fun a b : Int => a ≤ b) (fun a b _ _ h1 h2 => Int.le_antisymm h1 h2) (sortI_pair l) (sortI_pair m) ((sortI_perm l).trans (h.trans (sortI_perm m).symm))
theorem set_perm {c : List Int} {a b : Int} {i j : Nat} (hi : i < c.length) (hj : j < c.length) (ei : a = c.getD i default) (ej : a = c.getD j default) : (c.set i b).Perm (c.set j b) := by
  rw [getD_get _ _ hi] at ei
  rw [getD_get _ _ hj] at ej
  refine List.perm_iff_count.2 fun x => ?_
  rw [List.count_set hi, List.count_set hj, ← ei, ← ej]
/-- In a configuration, b may stand for a. -/
def mayAt (l : List (List Int)) (a b : Int) (c : List Int) : Bool :=
  match firstIx c.length (fun i => decide (a = c.getD i default)) with
  | some i => l.contains (sortI (c.set i b))
  | none => true
/-- In all configurations, b may stand for a. -/
def mayB (l : List (List Int)) (a b : Int) : Bool := l.all (mayAt l a b)
theorem i_replaces_eq (l : List (List Int)) (a b : Int) (hl : Short l) (hi : incL l = true) : i_replaces l a b = some (mayB l a b) := by
  have h1 := hl.1
  have key := itO_all (fun v => i_replaces_l0_S l a b v) (fun i => (i : Int)) l.length (fun i => mayAt l a b (l.getD i default)) (.inl ()) (.inr ()) ?_ ?_
  · rw [Int.natCast_zero, all_getD (fun c => mayAt l a b c)] at key
    unfold i_replaces i_replaces_l0 mayB
    rw [key]
    cases l.all (mayAt l a b) <;> rfl
  · intro i hil
    have hx := hl.getD i
    simp only [i_replaces_l0_S]
    rw [if_pos (lt_nat hil), ckT (ix_nat hil), Int.toNat_natCast, index_first _ _ hx, Option.bind_some, wrS i (by omega)]
    unfold mayAt
    cases hf : firstIx (l.getD i default).length (fun k => decide (a = (l.getD i default).getD k default)) with
    | none => simp
    | some k =>
      have hk := (firstIx_lt hf).1
      simp only [Int.toNat_natCast]
      rw [if_pos (by omega), ckT hx, ckT ⟨by omega, hk⟩, ckT hl, ckT (by rw [List.length_set]; exact hx), ckT hi]
  · simp only [i_replaces_l0_S]
    rw [if_neg (not_lt_nat _)]
theorem mayAt_all (l : List (List Int)) (a b : Int) (c : List Int) : (List.range c.length).all (fun j => !decide (c.getD j default = a) || l.contains (sortI (c.set j b))) = mayAt l a b c := by
  unfold mayAt
  cases hf : firstIx c.length (fun i => decide (a = c.getD i default)) with
  | none =>
    rw [range_all]
    intro j hj
    by_cases e : a = c.getD j default
    · unfold firstIx at hf
      rw [List.find?_eq_none] at hf
      exact absurd (decide_eq_true e) (hf j (List.mem_range.2 hj))
    · rw [decide_eq_false (fun e' => e e'.symm)]; rfl
  | some i =>
    obtain ⟨hi, hp⟩ := firstIx_lt hf
    have ei : a = c.getD i default := by simpa using hp
    show _ = l.contains (sortI (c.set i b))
    by_cases hc : l.contains (sortI (c.set i b)) = true
    · rw [hc, range_all]
      intro j hj
      by_cases e : a = c.getD j default
      · rw [sortI_same_of (set_perm hj hi e ei), hc, Bool.or_true]
      · rw [decide_eq_false (fun e' => e e'.symm)]; rfl
    · have hc' : l.contains (sortI (c.set i b)) = false := by simpa using hc
      rw [hc', Bool.eq_false_iff]
      intro hall
      have := range_all.1 hall i hi
      rw [hc', decide_eq_true ei.symm] at this
      cases this
theorem s_reMay_eq (l : List (List Int)) (a b : Int) (hl : Short l) : s_reMay l a b = some (mayB l a b) := by
  have h1 := hl.1
  have inner : ∀ i : Nat, i < l.length → s_reMay_l0 l a b (i : Int) 0 = some (if mayAt l a b (l.getD i default) = true then .inr () else .inl ()) := by
    intro i hil
    have hx := hl.getD i
    have key := itO_all (fun v => s_reMay_l0_S l a b (i : Int) v) (fun j => (j : Int)) (l.getD i default).length (fun j => !decide ((l.getD i default).getD j default = a) || l.contains (sortI ((l.getD i default).set j b))) (.inl ()) (.inr ()) ?_ ?_
    · rw [Int.natCast_zero, mayAt_all] at key
      exact key
    · intro j hj
      simp only [s_reMay_l0_S, s_l1Own, Int.toNat_natCast]
      rw [if_pos (lt_nat hj), ckT ⟨by omega, hj⟩, wrS j (by omega)]
      by_cases e : (l.getD i default).getD j default = a
      · rw [if_pos e, ckT (by omega), Option.bind_some, ckT ⟨by omega, hj⟩, ckT (by rw [List.length_set]; exact hx), ckT h1, ckT (by rw [sortI_len, List.length_set]; exact hx), decide_eq_true e, Bool.not_true, Bool.false_or]
      · rw [if_neg e, decide_eq_false e]; rfl
    · simp only [s_reMay_l0_S, Int.toNat_natCast]
      rw [if_neg (not_lt_nat _)]
  have key := itO_all (fun v => s_reMay_l1_S l a b v) (fun i => (i : Int)) l.length (fun i => mayAt l a b (l.getD i default)) (.inl ()) (.inr ()) ?_ ?_
  · rw [Int.natCast_zero, all_getD (fun c => mayAt l a b c)] at key
    unfold s_reMay s_reMay_l1 mayB
    rw [key]
    cases l.all (mayAt l a b) <;> rfl
  · intro i hil
    simp only [s_reMay_l1_S]
    rw [if_pos (lt_nat hil), ckT (ix_nat hil), inner i hil, Option.bind_some, wrS i (by omega)]
    cases mayAt l a b (l.getD i default) <;> rfl
  · simp only [s_reMay_l1_S]
    rw [if_neg (not_lt_nat _)]
/-- Two loops side by side. -/
theorem itO_pair {σ ρ : Type} (f g : σ → Option (σ ⊕ ρ)) (I : Nat → σ → Prop) (Q : ρ → Prop)
    (step : ∀ n s, I n s → (∃ s' m, f s = some (.inl s') ∧ g s = some (.inl s') ∧ m < n ∧ I m s') ∨ (∃ r, f s = some (.inr r) ∧ g s = some (.inr r) ∧ Q r)) :
    ∀ (n : Nat) (s : σ), I n s → ∃ r, itO f s = some r ∧ itO g s = some r ∧ Q r := by
  intro n
  induction n using Nat.strongRecOn with
  | _ n ih =>
    intro s hI
    rcases step n s hI with ⟨s', m, h1, h2, h3, h4⟩ | ⟨r, h1, h2, h3⟩
    · rw [itO_inl h1, itO_inl h2]; exact ih m h3 s' h4
    · exact ⟨r, itO_inr h1, itO_inr h2, h3⟩
theorem dia_inner (L : Nat) (l : List (List Int)) (hl : Short l) (hi : incL l = true) (hL : L ≤ 8) (a : Nat) (ha : a < L) (out : List (List Int)) (m : Nat) (ho : out.length ≤ m) (hm : m ≤ 1000) (h4 : ∀ x ∈ out, x.length ≤ 4) :
    ∃ r, i_diagram_l0 (L : Int) l (a : Int) (out, 0) = some r ∧ s_reDiagram_l0 l (L : Int) (a : Int) (out, 0) = some r ∧ r.length ≤ m + L ∧ ∀ x ∈ r, x.length ≤ 4 := by
  refine itO_pair (fun v => i_diagram_l0_S (L : Int) l (a : Int) v.1 v.2) (fun v => s_reDiagram_l0_S l (L : Int) (a : Int) v.1 v.2)
    (fun n v => ∃ (o : List (List Int)) (b : Nat), v = (o, (b : Int)) ∧ b ≤ L ∧ n = L - b ∧ o.length ≤ m + b ∧ ∀ x ∈ o, x.length ≤ 4) (fun r => r.length ≤ m + L ∧ ∀ x ∈ r, x.length ≤ 4) ?_ L (out, 0) ⟨out, 0, rfl, by omega, by omega, by omega, h4⟩
  rintro n v ⟨o, b, rfl, hb, rfl, hob, hx4⟩
  simp only [i_diagram_l0_S, s_reDiagram_l0_S]
  by_cases hbl : b < L
  · left
    rw [if_pos (lt_nat hbl), if_pos (lt_nat hbl), wrS b (by omega)]
    by_cases hab : (a : Int) = (b : Int)
    · rw [if_pos hab, if_pos hab]
      exact ⟨_, L - (b + 1), rfl, rfl, by omega, o, b + 1, rfl, by omega, rfl, by omega, hx4⟩
    · rw [if_neg hab, if_neg hab, i_replaces_eq l _ _ hl hi, s_reMay_eq l _ _ hl]
      simp only [Option.bind_some]
      rw [ckT (by omega)]
      by_cases hp : mayB l (a : Int) (b : Int) = true
      · rw [if_pos hp]
        refine ⟨_, L - (b + 1), rfl, rfl, by omega, _, b + 1, rfl, by omega, rfl, by simp; omega, fun x hx => ?_⟩
        rcases List.mem_append.1 hx with hx | hx
        · exact hx4 x hx
        · rw [List.mem_singleton.1 hx]; simp
      · rw [if_neg hp]
        exact ⟨_, L - (b + 1), rfl, rfl, by omega, o, b + 1, rfl, by omega, rfl, by omega, hx4⟩
  · right
    have : b = L := by omega
    subst this
    rw [if_neg (not_lt_nat _), if_neg (not_lt_nat _)]
    exact ⟨o, rfl, rfl, hob, hx4⟩
theorem dia_same (L : Nat) (l : List (List Int)) (hl : Short l) (hi : incL l = true) (hL : L ≤ 8) : ∃ r, i_diagram (L : Int) l = some r ∧ s_reDiagram l (L : Int) = some r ∧ r.length ≤ 100 ∧ ∀ x ∈ r, x.length ≤ 4 := by
  have key := itO_pair (fun v => i_diagram_l1_S (L : Int) l v.1 v.2) (fun v => s_reDiagram_l1_S l (L : Int) v.1 v.2)
    (fun n v => ∃ (o : List (List Int)) (a : Nat), v = (o, (a : Int)) ∧ a ≤ L ∧ n = L - a ∧ o.length ≤ 8 * a ∧ ∀ x ∈ o, x.length ≤ 4) (fun r => r.length ≤ 100 ∧ ∀ x ∈ r, x.length ≤ 4) ?_ L ([], 0) ⟨[], 0, rfl, by omega, by omega, by simp, by simp⟩
  · obtain ⟨r, h1, h2, h3⟩ := key
    refine ⟨r, ?_, ?_, h3⟩
    · unfold i_diagram i_diagram_l1; rw [h1]; rfl
    · unfold s_reDiagram s_reDiagram_l1; rw [h2]; rfl
  · rintro n v ⟨o, a, rfl, ha, rfl, hoa, hx4⟩
    simp only [i_diagram_l1_S, s_reDiagram_l1_S]
    by_cases hal : a < L
    · left
      obtain ⟨r, h1, h2, h3, h5⟩ := dia_inner L l hl hi hL a hal o (8 * a) hoa (by omega) hx4
      rw [if_pos (lt_nat hal), if_pos (lt_nat hal), h1, h2, wrS a (by omega)]
      simp only [Option.bind_some]
      exact ⟨_, L - (a + 1), rfl, rfl, by omega, r, a + 1, rfl, by omega, rfl, by omega, h5⟩
    · right
      have : a = L := by omega
      subst this
      rw [if_neg (not_lt_nat _), if_neg (not_lt_nat _)]
      exact ⟨o, rfl, rfl, by omega, hx4⟩
theorem tot_upto4 : ∀ {l : List (List Int)}, (∀ x ∈ l, x.length ≤ 4) → tot l ≤ 4 * l.length := by
  intro l
  induction l with
  | nil => intro _; rw [tot_nil]; simp
  | cons x l ih =>
    intro h
    have h1 := ih (fun y hy => h y (List.mem_cons_of_mem _ hy))
    have h2 := h x List.mem_cons_self
    rw [tot_cons, List.length_cons]
    omega
theorem diae_both (a d : Int) (ns es : List (List Int)) (hn : Short ns) (he : Short es) (hN : (ns.length : Int) + tot ns ≤ 1048576) : ∃ r ok, s_EdgeDiagram a d ns es = some (r, ok) ∧ i_EdgeDiagram a d ns es = some (r, ok) ∧ Short r ∧ tot r < 1000000000000 := by
  unfold s_EdgeDiagram i_EdgeDiagram
  rw [ckT hn, ckT he, ckT hn, ckT he]
  by_cases h : isProb a d ns es = true
  · rw [if_pos h, if_pos h]
    obtain ⟨⟨ha, ha'⟩, hd, c1, c2⟩ := isProb_cut h
    obtain ⟨L, rfl⟩ := Int.eq_ofNat_of_zero_le (by omega : 0 ≤ a)
    obtain ⟨r, h1, h2, h3, h4⟩ := dia_same L es (by assumption) (by first | exact confs_inc c2 | exact confs_inc c1) (by omega)
    have ht := tot_upto4 h4
    rw [h1, h2]
    exact ⟨r, true, rfl, rfl, ⟨by omega, fun x hx => by have := h4 x hx; omega⟩, by omega⟩
  · rw [if_neg h, if_neg h]
    exact ⟨_, _, rfl, rfl, Short.nil, by rw [tot_nil]; omega⟩
end Go.Proofs.Ytjlphfbpaejicaa
