/- Problems without weaker labels: program and reference agree. Conditions: none. -/
import Derived.Test.YtdjfaadpmbkcmaaGreatL6
import Derived.Test.YtdjfaadpmbkcmaaGreatDwrA
import Derived.Test.YtdjfaadpmbkcmaaGreatKmZ
import Derived.Test.YtdjfaadpmbkcmaaGreatFst
namespace Go.Proofs.YtdjfaadpmbkcmaaGreat
open Go Dv
set_option linter.unusedSimpArgs false
set_option linter.unusedVariables false
set_option maxRecDepth 100000


theorem take_next {α : Type} (l : List α) (i : Nat) (hi : i < l.length) : l.take (i + 1) = l.take i ++ [l[i]] := by rw [List.take_add_one, List.getElem?_eq_getElem hi]; rfl
theorem index_first (l : List Int) (n : Int) (h : l.length < 1099511627776) : gIx l n = some (match firstIx l.length (fun i => decide (n = l.getD i default)) with | some i => (i : Int) | none => -1) := by
 have key := itO_find (fun v => gIx_l0_S l n v) (fun i => (i : Int)) l.length (fun i => decide (n = l.getD i default)) (fun i => .inl (i : Int)) (.inr ()) ?_ ?_
 ·unfold gIx gIx_l0
  rw [Int.natCast_zero] at key
  rw [key]
  cases firstIx l.length (fun i => decide (n = l.getD i default)) <;> rfl
 ·intro i hi
  simp only [gIx_l0_S]
  rw [if_pos (lt_nat hi), ckT (ix_nat hi), Int.toNat_natCast, wrS i (by omega)]
  by_cases e : n = l.getD i default
  ·rw [if_pos e, decide_eq_true e, if_pos rfl]
  ·rw [if_neg e, decide_eq_false e, if_neg (by decide)]
 ·simp only [gIx_l0_S]; rw [if_neg (not_lt_nat _)]
theorem sortI_same_of {l m : List Int} (h : l.Perm m) : sortI l = sortI m :=
 List.Perm.eq_of_pairwise (le := fun a b : Int => a ≤ b) (fun a b _ _ h1 h2 => Int.le_antisymm h1 h2) (sortI_pair l) (sortI_pair m) ((sortI_perm l).trans (h.trans (sortI_perm m).symm))
theorem set_perm {c : List Int} {a b : Int} {i j : Nat} (hi : i < c.length) (hj : j < c.length) (ei : a = c.getD i default) (ej : a = c.getD j default) : (c.set i b).Perm (c.set j b) := by
 rw [getD_get _ _ hi] at ei
 rw [getD_get _ _ hj] at ej
 refine List.perm_iff_count.2 fun x => ?_
 rw [List.count_set hi, List.count_set hj, ← ei, ← ej]
/-- In a configuration, b may stand for a. -/
def mayAt (l : List (List Int)) (a b : Int) (c : List Int) : Bool :=
 match firstIx c.length (fun i => decide (a = c.getD i default)) with
 | some i => l.contains (sortI (c.set i b))
 | none => true
/-- In all configurations, b may stand for a. -/
def mayB (l : List (List Int)) (a b : Int) : Bool := l.all (mayAt l a b)
theorem i_replaces_eq (l : List (List Int)) (a b : Int) (hl : Short l) (hi : incL l = true) : i_replaces l a b = some (mayB l a b) := by
 have h1 := hl.1
 have key := itO_all (fun v => i_replaces_l0_S l a b v) (fun i => (i : Int)) l.length (fun i => mayAt l a b (l.getD i default)) (.inl ()) (.inr ()) ?_ ?_
 ·rw [Int.natCast_zero, all_getD (fun c => mayAt l a b c)] at key
  unfold i_replaces i_replaces_l0 mayB
  rw [key]
  cases l.all (mayAt l a b) <;> rfl
 ·intro i hil
  have hx := hl.getD i
  simp only [i_replaces_l0_S]
  rw [if_pos (lt_nat hil), ckT (ix_nat hil), Int.toNat_natCast, index_first _ _ hx, Option.bind_some, wrS i (by omega)]
  unfold mayAt
  cases hf : firstIx (l.getD i default).length (fun k => decide (a = (l.getD i default).getD k default)) with
  | none => simp
  | some k =>
   have hk := (firstIx_lt hf).1
   simp only [Int.toNat_natCast]
   rw [if_pos (by omega), ckT hx, ckT ⟨by omega, hk⟩, ckT hl, ckT (by rw [List.length_set]; exact hx), ckT hi]
 ·simp only [i_replaces_l0_S]
  rw [if_neg (not_lt_nat _)]
theorem mayAt_all (l : List (List Int)) (a b : Int) (c : List Int) : (List.range c.length).all (fun j => !decide (c.getD j default = a) || l.contains (sortI (c.set j b))) = mayAt l a b c := by
 unfold mayAt
 cases hf : firstIx c.length (fun i => decide (a = c.getD i default)) with
 | none =>
  rw [range_all]
  intro j hj
  by_cases e : a = c.getD j default
  ·unfold firstIx at hf
   rw [List.find?_eq_none] at hf
   exact absurd (decide_eq_true e) (hf j (List.mem_range.2 hj))
  ·rw [decide_eq_false (fun e' => e e'.symm)]; rfl
 | some i =>
  obtain ⟨hi, hp⟩ := firstIx_lt hf
  have ei : a = c.getD i default := by simpa using hp
  show _ = l.contains (sortI (c.set i b))
  by_cases hc : l.contains (sortI (c.set i b)) = true
  ·rw [hc, range_all]
   intro j hj
   by_cases e : a = c.getD j default
   ·rw [sortI_same_of (set_perm hj hi e ei), hc, Bool.or_true]
   ·rw [decide_eq_false (fun e' => e e'.symm)]; rfl
  ·have hc' : l.contains (sortI (c.set i b)) = false := by simpa using hc
   rw [hc', Bool.eq_false_iff]
   intro hall
   have := range_all.1 hall i hi
   rw [hc', decide_eq_true ei.symm] at this
   cases this
theorem s_reMay_eq (l : List (List Int)) (a b : Int) (hl : Short l) : s_reMay l a b = some (mayB l a b) := by
 have h1 := hl.1
 have inner : ∀ i : Nat, i < l.length → s_reMay_l0 l a b (i : Int) 0 = some (if mayAt l a b (l.getD i default) = true then .inr () else .inl ()) := by
  intro i hil
  have hx := hl.getD i
  have key := itO_all (fun v => s_reMay_l0_S l a b (i : Int) v) (fun j => (j : Int)) (l.getD i default).length (fun j => !decide ((l.getD i default).getD j default = a) || l.contains (sortI ((l.getD i default).set j b))) (.inl ()) (.inr ()) ?_ ?_
  ·rw [Int.natCast_zero, mayAt_all] at key
   exact key
  ·intro j hj
   simp only [s_reMay_l0_S, s_l1Own, Int.toNat_natCast]
   rw [if_pos (lt_nat hj), ckT ⟨by omega, hj⟩, wrS j (by omega)]
   by_cases e : (l.getD i default).getD j default = a
   ·rw [if_pos e, ckT (by omega), Option.bind_some, ckT ⟨by omega, hj⟩, ckT (by rw [List.length_set]; exact hx), ckT h1, ckT (by rw [sortI_len, List.length_set]; exact hx), decide_eq_true e, Bool.not_true, Bool.false_or]
   ·rw [if_neg e, decide_eq_false e]; rfl
  ·simp only [s_reMay_l0_S, Int.toNat_natCast]
   rw [if_neg (not_lt_nat _)]
 have key := itO_all (fun v => s_reMay_l1_S l a b v) (fun i => (i : Int)) l.length (fun i => mayAt l a b (l.getD i default)) (.inl ()) (.inr ()) ?_ ?_
 ·rw [Int.natCast_zero, all_getD (fun c => mayAt l a b c)] at key
  unfold s_reMay s_reMay_l1 mayB
  rw [key]
  cases l.all (mayAt l a b) <;> rfl
 ·intro i hil
  simp only [s_reMay_l1_S]
  rw [if_pos (lt_nat hil), ckT (ix_nat hil), inner i hil, Option.bind_some, wrS i (by omega)]
  cases mayAt l a b (l.getD i default) <;> rfl
 ·simp only [s_reMay_l1_S]
  rw [if_neg (not_lt_nat _)]
/-- Two loops side by side. -/
theorem itO_pair {σ ρ : Type} (f g : σ → Option (σ ⊕ ρ)) (I : Nat → σ → Prop) (Q : ρ → Prop)
  (step : ∀ n s, I n s → (∃ s' m, f s = some (.inl s') ∧ g s = some (.inl s') ∧ m < n ∧ I m s') ∨ (∃ r, f s = some (.inr r) ∧ g s = some (.inr r) ∧ Q r)) :
  ∀ (n : Nat) (s : σ), I n s → ∃ r, itO f s = some r ∧ itO g s = some r ∧ Q r := by
 intro n
 induction n using Nat.strongRecOn with
 | _ n ih =>
  intro s hI
  rcases step n s hI with ⟨s', m, h1, h2, h3, h4⟩ | ⟨r, h1, h2, h3⟩
  ·rw [itO_inl h1, itO_inl h2]; exact ih m h3 s' h4
  ·exact ⟨r, itO_inr h1, itO_inr h2, h3⟩
/-- The new labels of those that are kept. -/
def toK (n : Nat) (keep : List Int) : Nat → List Int
 | 0 => List.replicate n (-1)
 | i + 1 => (toK n keep i).set (keep.getD i default).toNat (i : Int)
theorem toK_len (n : Nat) (keep : List Int) : ∀ i, (toK n keep i).length = n
 | 0 => by simp [toK]
 | i + 1 => by simp [toK, toK_len n keep i]
theorem toK_at (n : Nat) (keep : List Int) : ∀ (i p : Nat), p < n → (toK n keep i).getD p default = -1 ∨ ∃ v : Nat, v < i ∧ (toK n keep i).getD p default = (v : Int) ∧ (keep.getD v default).toNat = p := by
 intro i
 induction i with
 | zero => intro p hp; left; simp [toK, hp]
 | succ i ih =>
  intro p hp
  have hl := toK_len n keep i
  by_cases he : (keep.getD i default).toNat = p
  ·right
   refine ⟨i, Nat.lt_succ_self _, ?_, he⟩
   rw [toK, he, List.getD_eq_getElem?_getD, List.getElem?_set_self (by rw [hl]; exact hp)]; rfl
  ·have : (toK n keep (i + 1)).getD p default = (toK n keep i).getD p default := by
    rw [toK, List.getD_eq_getElem?_getD, List.getElem?_set_ne he, ← List.getD_eq_getElem?_getD]
   rw [this]
   rcases ih p hp with h | ⟨v, h1, h2, h3⟩
   ·exact .inl h
   ·exact .inr ⟨v, by omega, h2, h3⟩
theorem toK_ok (n : Nat) (keep : List Int) (h8 : keep.length ≤ 8) : okTo (toK n keep keep.length) n := by
 refine ⟨toK_len _ _ _, fun x hx => ?_, fun i j hi hj he hge => ?_⟩
 ·obtain ⟨p, hp, rfl⟩ := List.getElem_of_mem hx
  rw [toK_len] at hp
  have := toK_at n keep keep.length p hp
  rw [getD_get _ _ (by rw [toK_len]; exact hp)] at this
  rcases this with h | ⟨v, h1, h2, _⟩ <;> omega
 ·rcases toK_at n keep keep.length i hi with h | ⟨v, h1, h2, h3⟩
  ·omega
  ·rcases toK_at n keep keep.length j hj with h' | ⟨v', h1', h2', h3'⟩
   ·omega
   ·have : v = v' := by omega
    subst this
    omega
theorem keep_loop_i (a d : Int) (ns es : List (List Int)) (keep : List Int) (n : Nat) (hk : ∀ i, i < keep.length → 0 ≤ keep.getD i default ∧ (keep.getD i default).toNat < n) (hl : keep.length < 1099511627776) : i_keepLabels_l0 a d ns es keep (List.replicate n (-1), 0) = some (toK n keep keep.length) := by
 unfold i_keepLabels_l0
 refine itO_for (fun v => i_keepLabels_l0_S a d ns es keep v.1 v.2) (fun i => (toK n keep i, (i : Int))) keep.length (toK n keep keep.length) ?_ ?_
 ·intro i hi
  simp only [i_keepLabels_l0_S, Int.toNat_natCast]
  rw [if_pos (lt_nat hi), ckT (by omega), ckT (by rw [toK_len]; exact hk i hi), wrS i (by omega)]
  rfl
 ·simp only [i_keepLabels_l0_S]
  rw [if_neg (not_lt_nat _)]
theorem keep_loop_s (a d : Int) (ns es : List (List Int)) (keep : List Int) (n : Nat) (hk : ∀ i, i < keep.length → 0 ≤ keep.getD i default ∧ (keep.getD i default).toNat < n) (hl : keep.length < 1099511627776) : s_prKeep_l1 a d ns es keep (List.replicate n (-1), 0) = some (toK n keep keep.length) := by
 unfold s_prKeep_l1
 refine itO_for (fun v => s_prKeep_l1_S a d ns es keep v.1 v.2) (fun i => (toK n keep i, (i : Int))) keep.length (toK n keep keep.length) ?_ ?_
 ·intro i hi
  simp only [s_prKeep_l1_S, Int.toNat_natCast]
  rw [if_pos (lt_nat hi), ckT (by omega), ckT (by rw [toK_len]; exact hk i hi), wrS i (by omega)]
  rfl
 ·simp only [s_prKeep_l1_S]
  rw [if_neg (not_lt_nat _)]
theorem clear_loop (a d : Int) (ns es : List (List Int)) (keep : List Int) (ha : 0 ≤ a ∧ a < 1099511627776) : s_prKeep_l0 a d ns es keep (List.replicate a.toNat 0, 0) = some (List.replicate a.toNat (-1)) := by
 unfold s_prKeep_l0
 have key := itO_for (fun v => s_prKeep_l0_S a d ns es keep v.1 v.2) (fun i => (List.replicate i (-1) ++ List.replicate (a.toNat - i) 0, (i : Int))) a.toNat (List.replicate a.toNat (-1)) ?_ ?_
 ·simpa using key
 ·intro i hi
  simp only [s_prKeep_l0_S, Int.toNat_natCast, List.length_replicate]
  rw [if_pos (lt_nat hi), ckT (by simp; omega), wrS i (by omega)]
  congr 3
  rw [List.set_append_right _ _ (by simp), List.length_replicate, Nat.sub_self, show a.toNat - i = (a.toNat - (i + 1)) + 1 by omega, List.replicate_succ, List.set_cons_zero, List.replicate_succ', List.append_assoc]
  rfl
 ·simp only [s_prKeep_l0_S, List.length_replicate]
  rw [if_neg (by omega)]
  simp

/-! ### The weakest label -/

/-- Another label may stand for a label. -/
def weakAt (L : Nat) (ns es : List (List Int)) (a : Nat) : Bool := !(List.range L).all fun b => decide ((a : Int) = (b : Int)) || !(mayB ns (a : Int) (b : Int) && mayB es (a : Int) (b : Int))
/-- The least label for which another one may stand. -/
def weakB (L : Int) (ns es : List (List Int)) : Int := match firstIx L.toNat (weakAt L.toNat ns es) with | some a => (a : Int) | none => -1
theorem weakB_cases {L : Int} {ns es : List (List Int)} : weakB L ns es = -1 ∨ ∃ a : Nat, weakB L ns es = (a : Int) ∧ a < L.toNat ∧ 2 ≤ L.toNat := by
 unfold weakB
 cases h : firstIx L.toNat (weakAt L.toNat ns es) with
 | none => exact .inl rfl
 | some a =>
  obtain ⟨h1, h2⟩ := firstIx_lt h
  refine .inr ⟨a, rfl, h1, ?_⟩
  rcases Nat.lt_or_ge L.toNat 2 with h3 | h3
  ·exfalso
   unfold weakAt at h2
   rw [Bool.not_eq_true', Bool.eq_false_iff] at h2
   refine h2 (range_all.2 fun b hb => ?_)
   rw [decide_eq_true (by omega)]; rfl
  ·exact h3
theorem i_weakest_eq (L d : Int) (ns es : List (List Int)) (hL : 0 ≤ L ∧ L ≤ 8) (hn : Short ns) (he : Short es) (jn : incL ns = true) (je : incL es = true) : i_weakest L d ns es = some (weakB L ns es) := by
 have hr : ∀ l : List (List Int), Short l → incL l = true → ∀ a b, i_replaces l a b = some (mayB l a b) := fun l h1 h2 a b => by first | exact i_replaces_eq l a b h1 h2 | exact s_reMay_eq l a b h1
 have inner : ∀ a : Nat, i_weakest_l0 L d ns es (a : Int) 0 = some (if weakAt L.toNat ns es a = true then .inl () else .inr ()) := by
  intro a
  have key := itO_all (fun v => i_weakest_l0_S L d ns es (a : Int) v) (fun b => (b : Int)) L.toNat (fun b => decide ((a : Int) = (b : Int)) || !(mayB ns (a : Int) (b : Int) && mayB es (a : Int) (b : Int))) (.inl ()) (.inr ()) ?_ ?_
  ·rw [Int.natCast_zero] at key
   unfold i_weakest_l0 weakAt
   rw [key]
   cases (List.range L.toNat).all fun b => decide ((a : Int) = (b : Int)) || !(mayB ns (a : Int) (b : Int) && mayB es (a : Int) (b : Int)) <;> rfl
  ·intro b hb
   simp only [i_weakest_l0_S]
   rw [if_pos (by omega), wrS b (by omega), hr ns hn jn, hr es he je, Option.bind_some, Option.bind_some]
   by_cases e : (a : Int) = (b : Int)
   ·rw [if_pos e, decide_eq_true e]; rfl
   ·rw [if_neg e, decide_eq_false e]
    cases mayB ns (a : Int) (b : Int) <;> cases mayB es (a : Int) (b : Int) <;> rfl
  ·simp only [i_weakest_l0_S]
   rw [if_neg (by omega)]
 have key := itO_find (fun v => i_weakest_l1_S L d ns es v) (fun i => (i : Int)) L.toNat (weakAt L.toNat ns es) (fun i => .inl (i : Int)) (.inr ()) ?_ ?_
 ·unfold i_weakest i_weakest_l1 weakB
  rw [Int.natCast_zero] at key
  rw [key]
  cases firstIx L.toNat (weakAt L.toNat ns es) <;> rfl
 ·intro a ha
  simp only [i_weakest_l1_S]
  rw [if_pos (by omega), inner a, Option.bind_some, wrS a (by omega)]
  cases weakAt L.toNat ns es a <;> rfl
 ·simp only [i_weakest_l1_S]
  rw [if_neg (by omega)]
theorem s_elWeak_eq (L d : Int) (ns es : List (List Int)) (hL : 0 ≤ L ∧ L ≤ 8) (hn : Short ns) (he : Short es) (jn : incL ns = true) (je : incL es = true) : s_elWeak L d ns es = some (weakB L ns es) := by
 have hr : ∀ l : List (List Int), Short l → incL l = true → ∀ a b, s_reMay l a b = some (mayB l a b) := fun l h1 h2 a b => by first | exact i_replaces_eq l a b h1 h2 | exact s_reMay_eq l a b h1
 have inner : ∀ a : Nat, s_elWeak_l0 L d ns es (a : Int) 0 = some (if weakAt L.toNat ns es a = true then .inl () else .inr ()) := by
  intro a
  have key := itO_all (fun v => s_elWeak_l0_S L d ns es (a : Int) v) (fun b => (b : Int)) L.toNat (fun b => decide ((a : Int) = (b : Int)) || !(mayB ns (a : Int) (b : Int) && mayB es (a : Int) (b : Int))) (.inl ()) (.inr ()) ?_ ?_
  ·rw [Int.natCast_zero] at key
   unfold s_elWeak_l0 weakAt
   rw [key]
   cases (List.range L.toNat).all fun b => decide ((a : Int) = (b : Int)) || !(mayB ns (a : Int) (b : Int) && mayB es (a : Int) (b : Int)) <;> rfl
  ·intro b hb
   simp only [s_elWeak_l0_S]
   rw [if_pos (by omega), wrS b (by omega), hr ns hn jn, hr es he je, Option.bind_some, Option.bind_some]
   by_cases e : (a : Int) = (b : Int)
   ·rw [if_pos e, decide_eq_true e]; rfl
   ·rw [if_neg e, decide_eq_false e]
    cases mayB ns (a : Int) (b : Int) <;> cases mayB es (a : Int) (b : Int) <;> rfl
  ·simp only [s_elWeak_l0_S]
   rw [if_neg (by omega)]
 have key := itO_find (fun v => s_elWeak_l1_S L d ns es v) (fun i => (i : Int)) L.toNat (weakAt L.toNat ns es) (fun i => .inl (i : Int)) (.inr ()) ?_ ?_
 ·unfold s_elWeak s_elWeak_l1 weakB
  rw [Int.natCast_zero] at key
  rw [key]
  cases firstIx L.toNat (weakAt L.toNat ns es) <;> rfl
 ·intro a ha
  simp only [s_elWeak_l1_S]
  rw [if_pos (by omega), inner a, Option.bind_some, wrS a (by omega)]
  cases weakAt L.toNat ns es a <;> rfl
 ·simp only [s_elWeak_l1_S]
  rw [if_neg (by omega)]

/-! ### Numbers and copies -/

/-- The numbers below a number. -/
def nums (n : Nat) : List Int := (List.range n).map fun i : Nat => (i : Int)
theorem nums_len (n : Nat) : (nums n).length = n := by simp [nums]
theorem nums_succ (n : Nat) : nums (n + 1) = nums n ++ [(n : Int)] := by simp [nums, List.range_succ]
theorem nums_mem {n : Nat} {x : Int} (h : x ∈ nums n) : 0 ≤ x ∧ x.toNat < n := by
 simp only [nums, List.mem_map, List.mem_range] at h
 obtain ⟨i, hi, rfl⟩ := h
 omega
theorem numbersTo_eq (n : Int) (h : 0 ≤ n ∧ n ≤ 8) : i_numbersTo n = some (nums n.toNat) := by
 unfold i_numbersTo
 rw [ckT (by omega)]
 have key := itO_for (fun v => i_numbersTo_l0_S n v.1 v.2) (fun i => (nums i ++ List.replicate (n.toNat - i) 0, (i : Int))) n.toNat (nums n.toNat) ?_ ?_
 ·unfold i_numbersTo_l0
  have e : ((0 : Nat) : Int) = 0 := rfl
  simp only [e, Nat.sub_zero, nums, List.range_zero, List.map_nil, List.nil_append] at key
  rw [key]; rfl
 ·intro i hi
  simp only [i_numbersTo_l0_S, List.length_replicate, Int.toNat_natCast]
  rw [if_pos (by omega), ckT (by simp [nums]; omega), wrS i (by omega), nums_succ]
  congr 3
  rw [List.set_append_right _ _ (by rw [nums_len]; omega), nums_len, Nat.sub_self, show n.toNat - i = (n.toNat - (i + 1)) + 1 by omega, List.replicate_succ, List.set_cons_zero, List.append_assoc]
  rfl
 ·simp only [i_numbersTo_l0_S, List.length_replicate]
  rw [if_neg (by omega)]
  simp
theorem copyLists_eq (l : List (List Int)) (h : Short l) : i_copyLists l = some l := by
 unfold i_copyLists
 have h1 := h.1
 rw [ckT (by omega)]
 have key := itO_for (fun v => i_copyLists_l0_S l v.1 v.2) (fun i => (l.take i ++ List.replicate (l.length - i) [], (i : Int))) l.length l ?_ ?_
 ·unfold i_copyLists_l0
  have e : ((0 : Nat) : Int) = 0 := rfl
  simp only [e, Nat.sub_zero, List.take_zero, List.nil_append] at key
  rw [key]; rfl
 ·intro i hi
  simp only [i_copyLists_l0_S, Int.toNat_natCast]
  rw [if_pos (lt_nat hi), ckT (by omega), ckT (h.getD i), ckT (by simp; omega), wrS i (by omega), getD_get _ _ hi, set_mid l i hi]
 ·simp only [i_copyLists_l0_S]
  rw [if_neg (not_lt_nat _)]
  simp
theorem own_eq (l : List (List Int)) (h : Short l) (hx : ∀ x ∈ l, ∀ y ∈ x, 0 ≤ y ∧ y < 8) : s_reOwn l = some l := by
 have h1 := h.1
 have inner : ∀ (i : Nat) (hi : i < l.length) (out : List (List Int)), sRS_l0 l 0 out (i : Int) ([], 0) = some l[i] := by
  intro i hi out
  have hl := h.at i hi
  have hm := hx _ (List.getElem_mem hi)
  unfold sRS_l0
  have key := itO_for (fun v => sRS_l0_S l 0 out (i : Int) v.1 v.2) (fun j => ((l[i]).take j, (j : Int))) (l[i]).length l[i] ?_ ?_
  ·have e : ((0 : Nat) : Int) = 0 := rfl
   simp only [e, List.take_zero] at key
   exact key
  ·intro j hj
   have hy := hm _ (List.getElem_mem hj)
   have lt : ((l[i]).take j).length ≤ (l[i]).length := by rw [List.length_take]; omega
   simp only [sRS_l0_S, Int.toNat_natCast, getD_get _ _ hi]
   rw [if_pos (lt_nat hj), ckT (by omega), ckT (by rw [List.length_take]; omega), getD_get _ _ hj, Int.add_zero, wr64 _ (by omega), wrS j (by omega), take_next _ _ hj]
  ·simp only [sRS_l0_S, Int.toNat_natCast, getD_get _ _ hi]
   rw [if_neg (not_lt_nat _), List.take_length]
 unfold s_reOwn sRS sRS_l1
 have key := itO_for (fun v => sRS_l1_S l 0 v.1 v.2) (fun i => (l.take i, (i : Int))) l.length l ?_ ?_
 ·have e : ((0 : Nat) : Int) = 0 := rfl
  simp only [e, List.take_zero] at key
  rw [key]; rfl
 ·intro i hi
  simp only [sRS_l1_S]
  rw [if_pos (lt_nat hi), ckT (by omega), inner i hi, Option.bind_some, ckT (by rw [List.length_take]; omega), wrS i (by omega), take_next _ _ hi]
 ·simp only [sRS_l1_S]
  rw [if_neg (not_lt_nat _), List.take_length]
theorem left_eq (L d : Int) (ns es r q : List (List Int)) (hL : 0 ≤ L ∧ L ≤ 8) : sDW_l0 L d ns es r q ([], 0) = some (nums L.toNat) := by
 unfold sDW_l0
 have key := itO_for (fun v => sDW_l0_S L d ns es r q v.1 v.2) (fun i => (nums i, (i : Int))) L.toNat (nums L.toNat) ?_ ?_
 ·exact key
 ·intro i hi
  simp only [sDW_l0_S]
  rw [if_pos (by omega), ckT (by rw [nums_len]; omega), wrS i (by omega), nums_succ]
 ·simp only [sDW_l0_S]
  rw [if_neg (by omega)]
theorem cut_snoc (l : List Int) (x : Int) (a : Nat) : cutL (l ++ [x]) a (a + 1) = if l.length = a then cutL l a (a + 1) else cutL l a (a + 1) ++ [x] := by
 unfold cutL
 by_cases h2 : l.length = a
 ·rw [if_pos h2, List.take_append_of_le_length (by omega), List.drop_eq_nil_of_le (show (l ++ [x]).length ≤ a + 1 by simp; omega), List.drop_eq_nil_of_le (show l.length ≤ a + 1 by omega)]
 ·rw [if_neg h2]
  by_cases h1 : l.length < a
  ·rw [List.take_of_length_le (l := l ++ [x]) (by simp; omega), List.take_of_length_le (l := l) (by omega), List.drop_eq_nil_of_le (show (l ++ [x]).length ≤ a + 1 by simp; omega), List.drop_eq_nil_of_le (show l.length ≤ a + 1 by omega)]
   simp
  ·rw [List.take_append_of_le_length (by omega), List.drop_append_of_le_length (by omega), List.append_assoc]
theorem keepL_eq (L d : Int) (ns es : List (List Int)) (left : List Int) (a : Nat) (hL : 0 ≤ L ∧ L ≤ 8) : sDW_l1 L d ns es left (a : Int) ([], 0) = some (cutL (nums L.toNat) a (a + 1)) := by
 unfold sDW_l1
 have key := itO_for (fun v => sDW_l1_S L d ns es left (a : Int) v.1 v.2) (fun i => (cutL (nums i) a (a + 1), (i : Int))) L.toNat (cutL (nums L.toNat) a (a + 1)) ?_ ?_
 ·have e : cutL (nums 0) a (a + 1) = [] := by simp [cutL, nums]
  have e' : ((0 : Nat) : Int) = 0 := rfl
  simp only [e, e'] at key
  exact key
 ·intro i hi
  have hc : (cutL (nums i) a (a + 1)).length ≤ 2 * i := by simp only [cutL, List.length_append, List.length_take, List.length_drop, nums_len]; omega
  simp only [sDW_l1_S]
  rw [if_pos (by omega), nums_succ, cut_snoc, nums_len, wrS i (by omega)]
  by_cases e : i = a
  ·rw [if_pos (by omega), if_pos e]
  ·rw [if_neg (by omega), if_neg e, ckT (by omega)]
 ·simp only [sDW_l1_S]
  rw [if_neg (by omega)]
theorem cutL_len (l : List Int) (a : Nat) (h : a < l.length) : (cutL l a (a + 1)).length = l.length - 1 := by simp only [cutL, List.length_append, List.length_take, List.length_drop]; omega
theorem cutL_mem {l : List Int} {a : Nat} {x : Int} (h : x ∈ cutL l a (a + 1)) : x ∈ l := by
 rcases List.mem_append.1 h with h | h
 ·exact List.mem_of_mem_take h
 ·exact List.mem_of_mem_drop h
theorem img_cut (left : List Int) (a : Nat) : img left (cutL (nums left.length) a (a + 1)) = cutL left a (a + 1) := by
 have e : img left (nums left.length) = left := by
  unfold img nums
  rw [List.map_map]
  refine List.ext_getElem (by simp) fun i h1 h2 => ?_
  simp only [List.getElem_map, List.getElem_range, Function.comp_apply, Int.toNat_natCast]
  rw [getD_get _ _ h2]
 unfold img at e ⊢
 unfold cutL
 rw [List.map_append, List.map_take, List.map_drop, e]
theorem toK_lt (n : Nat) (keep : List Int) (m : Int) (hm : (keep.length : Int) ≤ m ∧ 0 ≤ m) : ∀ x ∈ toK n keep keep.length, x < m := by
 intro x hx
 obtain ⟨p, hp, rfl⟩ := List.getElem_of_mem hx
 rw [toK_len] at hp
 have := toK_at n keep keep.length p hp
 rw [getD_get _ _ (by rw [toK_len]; exact hp)] at this
 rcases this with h | ⟨v, h1, h2, _⟩ <;> omega
theorem keep_step (L d : Int) (ns es : List (List Int)) (keep : List Int) (h : isProb L d ns es = true) (hn : Short ns) (he : Short es) (hnl : ns.length ≤ 1048576) (hel : es.length ≤ 1048576) (hk : ∀ i, i < keep.length → 0 ≤ keep.getD i default ∧ (keep.getD i default).toNat < L.toNat) (h8 : 1 ≤ keep.length ∧ keep.length ≤ 8) :
  ∃ N E, s_prKeep L d ns es keep = some ((keep.length : Int), d, N, E) ∧ i_keepLabels L d ns es keep = some ((keep.length : Int), d, N, E) ∧ isProb (keep.length : Int) d N E = true ∧ N.length ≤ ns.length ∧ tot N ≤ tot ns ∧ E.length ≤ es.length ∧ tot E ≤ tot es := by
 obtain ⟨h1, h2, h3, h4⟩ := isProb_cut h
 have ht := toK_ok L.toNat keep h8.2
 have hm := toK_lt L.toNat keep (keep.length : Int) ⟨Int.le_refl _, by omega⟩
 obtain ⟨n1, n2, n3, n4⟩ := both_map h3 h2 hn hnl ht
 obtain ⟨e1, e2, e3, e4⟩ := both_map h4 (by omega) he hel ht
 refine ⟨_, _, ?_, ?_, ?_, n3, n4, e3, e4⟩
 ·unfold s_prKeep
  rw [ckT (by omega), clear_loop L d ns es keep (by omega), Option.bind_some, keep_loop_s L d ns es keep L.toNat hk (by omega), Option.bind_some, n2, Option.bind_some, e2]
  rfl
 ·unfold i_keepLabels
  rw [repI_one (-1) L (by omega), Option.bind_some, keep_loop_i L d ns es keep L.toNat hk (by omega), Option.bind_some, n1, Option.bind_some, e1]
  rfl
 ·unfold isProb
  rw [keep_conf h3 h2 ht hm, keep_conf h4 (by omega) ht hm, inR_iff.2 (by omega), inR_iff.2 (by omega)]
  rfl
/-- Where the loop stands. -/
def dropI (n0 t0 n1 t1 : Int) (d : Int) (n : Nat) (v : Int × Int × (List (List Int)) × (List (List Int)) × (List Int) × Int) : Prop :=
 n = v.1.toNat ∧ v.2.1 = d ∧ isProb v.1 v.2.1 v.2.2.1 v.2.2.2.1 = true ∧ v.2.2.2.2.1.length = v.1.toNat ∧ v.2.2.2.2.2 = weakB v.1 v.2.2.1 v.2.2.2.1 ∧ (v.2.2.1.length : Int) ≤ n0 ∧ tot v.2.2.1 ≤ t0 ∧ (v.2.2.2.1.length : Int) ≤ n1 ∧ tot v.2.2.2.1 ≤ t1
theorem drop_loop (n0 t0 n1 t1 d : Int) (hb : n0 + t0 + n1 + t1 ≤ 1048576) (h0 : 0 ≤ n0 ∧ 0 ≤ t0 ∧ 0 ≤ n1 ∧ 0 ≤ t1) (n : Nat) (v : Int × Int × (List (List Int)) × (List (List Int)) × (List Int) × Int) (hv : dropI n0 t0 n1 t1 d n v) :
  ∃ r, sDW_l2 v = some r ∧ i_DropWeaker_l0 v = some r ∧ ((r.2.2.1.length : Int) ≤ n0 ∧ tot r.2.2.1 ≤ t0 ∧ (r.2.2.2.1.length : Int) ≤ n1 ∧ tot r.2.2.2.1 ≤ t1 ∧ r.2.2.2.2.length ≤ 8) := by
 unfold sDW_l2 i_DropWeaker_l0
 refine itO_pair _ _ (dropI n0 t0 n1 t1 d) (fun r : Int × Int × (List (List Int)) × (List (List Int)) × (List Int) => (r.2.2.1.length : Int) ≤ n0 ∧ tot r.2.2.1 ≤ t0 ∧ (r.2.2.2.1.length : Int) ≤ n1 ∧ tot r.2.2.2.1 ≤ t1 ∧ r.2.2.2.2.length ≤ 8) ?_ n v hv
 rintro n ⟨L, d', N, E, left, a⟩ ⟨i1, i2, i3, i4, i5, i6, i7, i8, i9⟩
 simp only at i1 i2 i3 i4 i5 i6 i7 i8 i9
 subst i2
 obtain ⟨c1, c2, c3, c4⟩ := isProb_cut i3
 have p1 := tot_nonneg N
 have p2 := tot_nonneg E
 have sN : Short N := tot_short (by omega)
 have sE : Short E := tot_short (by omega)
 rcases weakB_cases (L := L) (ns := N) (es := E) with hw | ⟨m, hw, hm, hL2⟩
 ·right
  rw [hw] at i5
  subst i5
  refine ⟨(L, d', N, E, left), ?_, ?_, i6, i7, i8, i9, by simp only; omega⟩
  ·simp only [sDW_l2_S]; rw [if_neg (by omega)]
  ·simp only [i_DropWeaker_l0_S]; rw [if_neg (by omega)]
 ·left
  rw [hw] at i5
  subst i5
  have hkl : (cutL (nums L.toNat) m (m + 1)).length = L.toNat - 1 := by rw [cutL_len _ _ (by rw [nums_len]; exact hm), nums_len]
  have hkm : ∀ x ∈ cutL (nums L.toNat) m (m + 1), 0 ≤ x ∧ x.toNat < L.toNat := fun x hx => nums_mem (cutL_mem hx)
  obtain ⟨N', E', k1, k2, k3, k4, k5, k6, k7⟩ := keep_step L d' N E (cutL (nums L.toNat) m (m + 1)) i3 sN sE (by omega) (by omega) (fun i hi => by rw [getD_get _ _ hi]; exact hkm _ (List.getElem_mem hi)) (by omega)
  have p3 := tot_nonneg N'
  have p4 := tot_nonneg E'
  obtain ⟨g1, g2, g3, g4⟩ := isProb_cut k3
  have hwE := s_elWeak_eq ((cutL (nums L.toNat) m (m + 1)).length : Int) d' N' E' (by omega) (tot_short (by omega)) (tot_short (by omega)) (confs_inc g3) (confs_inc g4)
  have hwI := i_weakest_eq ((cutL (nums L.toNat) m (m + 1)).length : Int) d' N' E' (by omega) (tot_short (by omega)) (tot_short (by omega)) (confs_inc g3) (confs_inc g4)
  have hco := coThrough_eq left (cutL (nums L.toNat) m (m + 1)) L.toNat i4 (fun x hx => hkm x hx) (by omega)
  have him : img left (cutL (nums L.toNat) m (m + 1)) = cutL left m (m + 1) := by rw [← i4]; exact img_cut left m
  rw [him] at hco
  refine ⟨(((cutL (nums L.toNat) m (m + 1)).length : Int), d', N', E', cutL left m (m + 1), weakB ((cutL (nums L.toNat) m (m + 1)).length : Int) N' E'), L.toNat - 1, ?_, ?_, by omega, ?_⟩
  ·simp only [sDW_l2_S]
   rw [if_pos (by omega), keepL_eq L d' N E left m (by omega), Option.bind_some, k1, Option.bind_some]
   simp only [hco, Option.bind_some, hwE, ite_self]
  ·simp only [i_DropWeaker_l0_S]
   rw [if_pos (by omega), numbersTo_eq L (by omega), Option.bind_some, wrS m (by omega), Int.toNat_natCast, Int.toNat_natCast]
   rw [ckT (by rw [nums_len]; omega), k2, Option.bind_some, ckT (by omega)]
   simp only [hwI, Option.bind_some]
  ·refine ⟨by simp only; omega, rfl, k3, ?_, rfl, by simp only; omega, by simp only; omega, by simp only; omega, by simp only; omega⟩
   simp only
   rw [cutL_len _ _ (by omega), hkl, i4]; omega
theorem conf_small {l : List (List Int)} {s n : Int} (h : confs l s n = true) (hn : n ≤ 8) : ∀ x ∈ l, ∀ y ∈ x, 0 ≤ y ∧ y < 8 := fun x hx y hy => by
 have := inR_iff.1 (List.all_eq_true.1 (confs_at h hx).2.2 y hy)
 omega
theorem drop_both (a d : Int) (ns es : List (List Int)) (hb : (ns.length : Int) + tot ns + es.length + tot es ≤ 1048576) :
  (sDW a d ns es = some (.inr (0, 0, [], [], [], false)) ∧ i_DropWeaker a d ns es = some (0, 0, [], [], [], false)) ∨
  ∃ L e N E left, sDW a d ns es = some (.inl (L, e, N, E, left, true)) ∧ i_DropWeaker a d ns es = some (L, e, N, E, left, true) ∧ N.length ≤ ns.length ∧ tot N ≤ tot ns ∧ E.length ≤ es.length ∧ tot E ≤ tot es ∧ left.length ≤ 8 := by
 have p1 := tot_nonneg ns
 have p2 := tot_nonneg es
 have hn : Short ns := tot_short (by omega)
 have he : Short es := tot_short (by omega)
 unfold sDW i_DropWeaker
 simp only [ckT hn, ckT he]
 by_cases h : isProb a d ns es = true
 ·obtain ⟨c1, c2, c3, c4⟩ := isProb_cut h
  right
  obtain ⟨r, hS, hI, q1, q2, q3, q4, q5⟩ := drop_loop ns.length (tot ns) es.length (tot es) d (by omega) (by omega) a.toNat (a, d, ns, es, nums a.toNat, weakB a ns es) ⟨rfl, rfl, h, nums_len _, rfl, Int.le_refl _, Int.le_refl _, Int.le_refl _, Int.le_refl _⟩
  refine ⟨r.1, r.2.1, r.2.2.1, r.2.2.2.1, r.2.2.2.2, ?_, ?_, by omega, q2, by omega, q4, q5⟩
  ·simp only [if_pos h, own_eq ns hn (conf_small c3 c1.2), own_eq es he (conf_small c4 c1.2), Option.bind_some]
   rw [left_eq a d ns es ns es (by omega), Option.bind_some, s_elWeak_eq a d ns es (by omega) hn he (confs_inc c3) (confs_inc c4), Option.bind_some, hS]
   rfl
  ·unfold i_copyProblem
   simp only [if_pos h, copyLists_eq ns hn, copyLists_eq es he, Option.bind_some]
   rw [numbersTo_eq a (by omega), Option.bind_some, i_weakest_eq a d ns es (by omega) hn he (confs_inc c3) (confs_inc c4), Option.bind_some, hI]
   rfl
 ·simp only [if_neg h]; exact .inl ⟨by trivial, by trivial⟩

end Go.Proofs.YtdjfaadpmbkcmaaGreat
