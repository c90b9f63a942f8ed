/- Lists of configurations with other labels: program and reference agree. Conditions: none. -/
import Derived.Test.YtdjfaadpmbkcmaaGreatL6
import Derived.Test.YtdjfaadpmbkcmaaGreatRnA
import Derived.Test.YtdjfaadpmbkcmaaGreatCut
namespace Go.Proofs.YtdjfaadpmbkcmaaGreat
open Go Dv
set_option linter.unusedSimpArgs false
set_option linter.unusedVariables false
set_option maxRecDepth 100000


theorem cmpD : ∀ (a b : List Int), Dv.cmpL a b = cmpL a b
 | [], [] => rfl
 | [], _ :: _ => rfl
 | _ :: _, [] => rfl
 | x :: a, y :: b => by
  have ih := cmpD a b
  simp only [Dv.cmpL, cmpL, Dv.cmpI_eq]
  by_cases h : x = y
  ·rw [if_pos h, if_pos h, ih]
  ·rw [if_neg h, if_neg h]
   unfold Dv.cmpI
   by_cases h1 : x < y
   ·rw [if_pos h1, if_pos h1]
   ·rw [if_neg h1, if_neg h1, if_pos (by omega)]
theorem equal_eq (a b : List Int) (ha : a.length < 1099511627776) : gEq a b = some (decide (a = b)) := by
 unfold gEq gEq_l0
 by_cases hl : a.length = b.length
 ·rw [if_pos (by omega)]
  have key := itO_all (fun v => gEq_l0_S a b v) (fun i => (i : Int)) a.length (fun i => decide (a.getD i default = b.getD i default)) (.inl ()) (.inr ()) ?_ ?_
  ·simp only [Int.natCast_zero] at key
   rw [key, all_same a b hl]
   by_cases he : a = b <;> simp [he]
  ·intro i hi
   simp only [gEq_l0_S, Int.toNat_natCast]
   rw [if_pos (lt_nat hi), ckT (by omega), ckT (by omega), wrS i (by omega)]
   by_cases he : a.getD i default = b.getD i default
   ·rw [if_pos he, decide_eq_true he]; rfl
   ·rw [if_neg he, decide_eq_false he]; rfl
  ·simp only [gEq_l0_S]
   rw [if_neg (not_lt_nat _)]
 ·rw [if_neg (by omega)]
  have : ¬ a = b := fun e => hl (by rw [e])
  simp [this]

/-- The labels that take the place of others. -/
def img (to c : List Int) : List Int := c.map fun a => to.getD a.toNat default
def imgs (l : List (List Int)) (to : List Int) : List (List Int) := (l.filter fun c => !(img to c).contains (-1)).map fun c => sortI (img to c)
/-- New labels: small, and no two alike. -/
def okTo (to : List Int) (n : Nat) : Prop := to.length = n ∧ (∀ x ∈ to, -1 ≤ x ∧ x ≤ 8) ∧ ∀ i j, i < n → j < n → to.getD i default = to.getD j default → 0 ≤ to.getD i default → i = j
theorem img_len (to c : List Int) : (img to c).length = c.length := by simp [img]
theorem imgs_nil (to : List Int) : imgs [] to = [] := rfl
theorem imgs_snoc (l : List (List Int)) (c to : List Int) : imgs (l ++ [c]) to = if (img to c).contains (-1) = true then imgs l to else imgs l to ++ [sortI (img to c)] := by
 unfold imgs
 rw [List.filter_append, List.map_append]
 by_cases h : (img to c).contains (-1) = true
 ·rw [if_pos h, List.filter_cons_of_neg (by rw [h]; decide)]; simp
 ·rw [if_neg h, List.filter_cons_of_pos (by rw [Bool.eq_false_iff.2 h]; rfl)]; simp
theorem imgs_mem {l : List (List Int)} {to y : List Int} (h : y ∈ imgs l to) : ∃ c ∈ l, (img to c).contains (-1) = false ∧ y = sortI (img to c) := by
 unfold imgs at h
 obtain ⟨c, hc, rfl⟩ := List.mem_map.1 h
 obtain ⟨h1, h2⟩ := List.mem_filter.1 hc
 exact ⟨c, h1, by simpa using h2, rfl⟩
theorem imgs_length_le (l : List (List Int)) (to : List Int) : (imgs l to).length ≤ l.length := by unfold imgs; rw [List.length_map]; exact List.length_filter_le _ _
/-- Labels of a configuration. -/
def inN (c : List Int) (n : Nat) : Prop := ∀ a ∈ c, 0 ≤ a ∧ a.toNat < n
theorem img_mem {to c : List Int} {n : Nat} (ht : okTo to n) (hc : inN c n) {x : Int} (hx : x ∈ img to c) : x ∈ to := by
 unfold img at hx
 obtain ⟨a, ha, rfl⟩ := List.mem_map.1 hx
 have := (hc a ha).2
 rw [List.getD_eq_getElem?_getD, List.getElem?_eq_getElem (by rw [ht.1]; exact this)]
 exact List.getElem_mem _
theorem img_inj {to c d : List Int} {n : Nat} (ht : okTo to n) (hc : inN c n) (hd : inN d n) (sc : sortedB c = true) (sd : sortedB d = true) (nc : (img to c).contains (-1) = false) (nd' : (img to d).contains (-1) = false) (h : sortI (img to c) = sortI (img to d)) : c = d := by
 have hp : (img to c).Perm (img to d) := (sortI_perm _).symm.trans (h ▸ sortI_perm (img to d))
 have inv : ∀ e : List Int, inN e n → (img to e).contains (-1) = false → (img to e).map (fun y => ((to.idxOf y : Nat) : Int)) = e := by
  intro e he hne
  unfold img
  rw [List.map_map]
  have : e.map ((fun y => ((to.idxOf y : Nat) : Int)) ∘ fun a => to.getD a.toNat default) = e.map id := by
   refine List.map_congr_left fun a ha => ?_
   obtain ⟨h0, h1⟩ := he a ha
   have hlt : a.toNat < to.length := by rw [ht.1]; exact h1
   have hg : to.getD a.toNat default = to[a.toNat] := by rw [List.getD_eq_getElem?_getD, List.getElem?_eq_getElem hlt]; rfl
   have hm : to[a.toNat] ∈ to := List.getElem_mem _
   have hj := List.idxOf_lt_length_of_mem hm
   have hge : 0 ≤ to.getD a.toNat default := by
    have hx : to.getD a.toNat default ∈ img to e := List.mem_map.2 ⟨a, ha, rfl⟩
    have := (ht.2.1 _ (img_mem ht he hx)).1
    rcases Int.lt_or_le (to.getD a.toNat default) 0 with hl | hl
    ·have he1 : to.getD a.toNat default = -1 := by omega
     rw [he1] at hx
     have := List.contains_iff_mem.2 hx
     rw [this] at hne; cases hne
    ·exact hl
   have := ht.2.2 a.toNat (to.idxOf to[a.toNat]) h1 (by rw [← ht.1]; exact hj) (by rw [hg, List.getD_eq_getElem?_getD, List.getElem?_eq_getElem hj, Option.getD_some, List.getElem_idxOf]) hge
   simp only [Function.comp_apply, id, hg]
   omega
  rw [this, List.map_id]
 have hq := hp.map (fun y => ((to.idxOf y : Nat) : Int))
 rw [inv c hc nc, inv d hd nd'] at hq
 exact List.Perm.eq_of_pairwise (le := fun a b : Int => a ≤ b) (fun a b _ _ h1 h2 => Int.le_antisymm h1 h2) (sortedB_pair sc) (sortedB_pair sd) hq
theorem incL_pair {l : List (List Int)} (h : incL l = true) : l.Pairwise (fun a b => a ≠ b) := by
 rw [List.pairwise_iff_getElem]
 intro i j hi hj hij he
 have := incL_lt' h hij hj
 rw [getD_get _ _ hi, getD_get _ _ hj, he, cmpL_refl] at this
 exact absurd this (by decide)
/-- What is asked of the lists. -/
def okC (l : List (List Int)) (n s : Nat) : Prop := ∀ c ∈ l, inN c n ∧ sortedB c = true ∧ c.length = s
theorem imgs_nodup {l : List (List Int)} {to : List Int} {n s : Nat} (ht : okTo to n) (hl : okC l n s) (hi : incL l = true) : (imgs l to).Nodup := by
 unfold imgs
 rw [List.nodup_iff_pairwise_ne, List.pairwise_map]
 refine List.Pairwise.imp_of_mem ?_ ((incL_pair hi).filter _)
 intro a b ha hb hne he
 obtain ⟨h1, h2⟩ := List.mem_filter.1 ha
 obtain ⟨h3, h4⟩ := List.mem_filter.1 hb
 exact hne (img_inj ht (hl a h1).1 (hl b h3).1 (hl a h1).2.1 (hl b h3).2.1 (by simpa using h2) (by simpa using h4) he)
theorem sortL_nodup {l : List (List Int)} (h : l.Nodup) : (sortL l).Nodup := (sortL_perm l).nodup_iff.2 h
/-- Sorted lists, each once, are as they were. -/
theorem sortedLists_eq (xs : List (List Int)) (hn : xs.Nodup) (hl : xs.length < 1099511627776) (hx : ∀ x ∈ xs, x.length < 1099511627776) : i_sortedLists xs = some (sortL xs) := by
 have hm : ∀ x ∈ sortL xs, x.length < 1099511627776 := fun x h => hx x ((sortL_perm xs).mem_iff.1 h)
 have hlen : (sortL xs).length < 1099511627776 := by rw [sortL_length]; exact hl
 have hnd := sortL_nodup hn
 unfold i_sortedLists
 rw [ckT (by omega), ckT (fun x h => by have := hx x h; omega)]
 generalize sortL xs = ys at hm hlen hnd ⊢
 unfold gCF
 by_cases h2 : (ys.length : Int) < 2
 ·rw [if_pos h2]; rfl
 ·rw [if_neg h2]
  have key := itO_for (fun v => gCF_l0_S ys (fun a0 a1 => gEq a0 a1) v) (fun i => ((i + 1 : Nat) : Int)) (ys.length - 1) () ?_ ?_
  ·unfold gCF_l0
   rw [show ((0 + 1 : Nat) : Int) = 1 from rfl] at key
   rw [key]; rfl
  ·intro i hi
   have e1 : IntKind.i64.wrap (((i + 1 : Nat) : Int) - 1) = (i : Int) := by rw [wr64 _ (by omega)]; omega
   simp only [gCF_l0_S, e1, Int.toNat_natCast]
   have hi1 : i + 1 < ys.length := by omega
   have hne : ¬ ys.getD (i + 1) default = ys.getD i default := fun he => by
    rw [getD_get _ _ hi1, getD_get _ _ (by omega)] at he
    exact (List.pairwise_iff_getElem.1 (List.nodup_iff_pairwise_ne.1 hnd)) i (i + 1) (by omega) hi1 (by omega) he.symm
   rw [if_pos (by omega), ckT (by omega), ckT (by omega), equal_eq _ _ (by rw [getD_get _ _ hi1]; exact hm _ (List.getElem_mem _)), Option.bind_some, decide_eq_false hne, if_neg (by decide), wrS (i + 1) (by omega)]
  ·simp only [gCF_l0_S]
   rw [if_neg (by omega)]
theorem renamed_l0_eq (list : List (List Int)) (to : List Int) (out : List (List Int)) (t n : Nat) (c : List Int) (hg : list.getD t default = c) (ht : to.length = n) (hc : inN c n) (hcl : c.length < 1099511627775) : i_renamed_l0 list to out (t : Int) ([], 0) = some (img to c) := by
 unfold i_renamed_l0
 refine itO_push (fun v => i_renamed_l0_S list to out (t : Int) v.1 v.2) c (fun a => to.getD a.toNat default) ?_ ?_
 ·intro i hi o ho
  have ha := hc c[i] (List.getElem_mem hi)
  simp only [i_renamed_l0_S, Int.toNat_natCast, hg]
  rw [if_pos (lt_nat hi), ckT (by omega), ckT (by rw [getD_get _ _ hi]; omega), ckT (by omega), wrS i (by omega), getD_get _ _ hi]
 ·intro o ho
  simp only [i_renamed_l0_S, Int.toNat_natCast, hg]
  rw [if_neg (not_lt_nat _)]
theorem take_succ_get {α : Type} (l : List α) (i : Nat) (hi : i < l.length) : l.take (i + 1) = l.take i ++ [l[i]] := by rw [List.take_add_one, List.getElem?_eq_getElem hi]; rfl
theorem renamed_l1_eq (l : List (List Int)) (to : List Int) (n s : Nat) (ht : okTo to n) (hl : okC l n s) (hs : s < 1099511627775) (hll : l.length < 1099511627776) : i_renamed_l1 l to ([], 0) = some (imgs l to) := by
 unfold i_renamed_l1
 have key := itO_for (fun v => i_renamed_l1_S l to v.1 v.2) (fun i => (imgs (l.take i) to, (i : Int))) l.length (imgs l to) ?_ ?_
 ·simpa [imgs_nil] using key
 ·intro i hi
  obtain ⟨h1, h2, h3⟩ := hl l[i] (List.getElem_mem hi)
  have hle := imgs_length_le (l.take i) to
  rw [List.length_take] at hle
  simp only [i_renamed_l1_S]
  rw [if_pos (lt_nat hi), ckT (ix_nat hi), renamed_l0_eq l to _ i n l[i] (getD_get _ _ hi) ht.1 h1 (by omega), Option.bind_some, ckT (by rw [img_len]; omega), take_succ_get _ _ hi, imgs_snoc, wrS i (by omega)]
  by_cases hc : (img to l[i]).contains (-1) = true
  ·rw [if_pos hc, if_pos hc]
  ·rw [if_neg hc, if_neg hc, ckT (by rw [img_len]; omega), ckT (by omega), sortM_eq]
 ·simp only [i_renamed_l1_S]
  rw [if_neg (not_lt_nat _), List.take_length]
theorem imgs_len {l : List (List Int)} {to : List Int} {n s : Nat} (hl : okC l n s) {y : List Int} (hy : y ∈ imgs l to) : y.length = s := by
 obtain ⟨c, hc, _, rfl⟩ := imgs_mem hy
 rw [sortI_len, img_len]; exact (hl c hc).2.2
theorem i_renamed_eq (l : List (List Int)) (to : List Int) (n s : Nat) (ht : okTo to n) (hl : okC l n s) (hs : s < 1099511627775) (hll : l.length < 1099511627776) (hi : incL l = true) : i_renamed l to = some (sortL (imgs l to)) := by
 unfold i_renamed
 have hle := imgs_length_le l to
 rw [renamed_l1_eq l to n s ht hl hs hll, Option.bind_some, sortedLists_eq _ (imgs_nodup ht hl hi) (by omega) (fun x hx => by have := imgs_len hl hx; omega)]
 rfl
theorem coThrough_eq (to c : List Int) (n : Nat) (ht : to.length = n) (hc : inN c n) (hcl : c.length < 1099511627775) : s_coThrough to c = some (img to c) := by
 unfold s_coThrough s_coThrough_l0
 rw [itO_push (fun v => s_coThrough_l0_S to c v.1 v.2) c (fun a => to.getD a.toNat default)]
 ·rfl
 ·intro i hi o ho
  have ha := hc c[i] (List.getElem_mem hi)
  simp only [s_coThrough_l0_S, Int.toNat_natCast]
  rw [if_pos (lt_nat hi), ckT (by omega), ckT (by rw [getD_get _ _ hi]; omega), ckT (by omega), wrS i (by omega), getD_get _ _ hi]
 ·intro o ho
  simp only [s_coThrough_l0_S]
  rw [if_neg (not_lt_nat _)]
theorem insert_eq (ys : List (List Int)) (y : List Int) (s : Nat) (hy : y.length = s) (sy : smallI y = true) (hys : ∀ x ∈ ys, x.length = s ∧ smallI x = true) (hn : y ∉ ys) (hl : ys.length < 1099511627774) (hs : s < 1099511627776) :
  s_prInsert (sortL ys) y = some (.inr (sortL (ys ++ [y]))) := by
 have hm : ∀ x ∈ sortL ys, x.length = s ∧ smallI x = true := fun x h => hys x ((sortL_perm ys).mem_iff.1 h)
 have hny : y ∉ sortL ys := fun h => hn ((sortL_perm ys).mem_iff.1 h)
 have hlen : (sortL ys).length = ys.length := sortL_length ys
 have hpw := sortL_pairwise ys
 have hperm := sortL_perm ys
 generalize sortL ys = o at hm hny hlen hpw hperm ⊢
 have hat : ∀ i (hi : i < o.length), (o.getD i default).length = s ∧ smallI (o.getD i default) = true := fun i hi => by rw [getD_get _ _ hi]; exact hm _ (List.getElem_mem hi)
 obtain ⟨r, h1, k, rfl, hk, hlow, hhigh⟩ := itO_inv (fun v => s_prInsert_l0_S o y v)
  (fun m v => ∃ k : Nat, v = (k : Int) ∧ k ≤ o.length ∧ m = o.length - k ∧ ∀ j, j < k → cmpL (o.getD j default) y < 0)
  (fun r => ∃ k : Nat, r = (k : Int) ∧ k ≤ o.length ∧ (∀ j, j < k → cmpL (o.getD j default) y < 0) ∧ (k < o.length → ¬ cmpL (o.getD k default) y < 0)) (by
   rintro m v ⟨k, rfl, hk, rfl, hlow⟩
   by_cases hlt : k < o.length
   ·obtain ⟨q1, q2⟩ := hat k hlt
    by_cases hc : cmpL (o.getD k default) y < 0
    ·left
     refine ⟨((k + 1 : Nat) : Int), o.length - (k + 1), ?_, by omega, k + 1, rfl, by omega, rfl, fun j hj => ?_⟩
     ·simp only [s_prInsert_l0_S, Int.toNat_natCast]
      rw [if_pos (lt_nat hlt), ckT (by omega), ckT (by omega), ckT (by omega), ckT q2, ckT sy, if_pos hc, wrS k (by omega)]
     ·by_cases he : j = k
      ·subst he; exact hc
      ·exact hlow j (by omega)
    ·right
     refine ⟨(k : Int), ?_, k, rfl, hk, hlow, fun _ => hc⟩
     simp only [s_prInsert_l0_S, Int.toNat_natCast]
     rw [if_pos (lt_nat hlt), ckT (by omega), ckT (by omega), ckT (by omega), ckT q2, ckT sy, if_neg hc]
   ·right
    refine ⟨(k : Int), ?_, k, rfl, hk, hlow, fun h => absurd h hlt⟩
    simp only [s_prInsert_l0_S]
    rw [if_neg (by omega)]) o.length (0 : Int) ⟨0, rfl, Nat.zero_le _, rfl, fun j hj => by omega⟩
 have hres : ((o.take k).drop 0 ++ [y]) ++ (o.take o.length).drop k = sortL (ys ++ [y]) := by
  rw [List.drop_zero, List.take_length]
  refine sortL_unique ?_ ?_
  ·have e1 : ((o.take k ++ [y]) ++ o.drop k).Perm (y :: (o.take k ++ o.drop k)) := by
    rw [List.append_assoc]
    exact List.perm_middle
   rw [List.take_append_drop] at e1
   exact e1.trans ((hperm.cons y).trans (List.perm_append_singleton y ys).symm)
  ·have htk : (o.take k).Pairwise fun a b => Dv.cmpL a b ≤ 0 := hpw.sublist (List.take_sublist _ _)
   have hdr : (o.drop k).Pairwise fun a b => Dv.cmpL a b ≤ 0 := hpw.sublist (List.drop_sublist _ _)
   have hty : ∀ a ∈ o.take k, Dv.cmpL a y ≤ 0 := fun a ha => by
    obtain ⟨j, hj, rfl⟩ := List.getElem_of_mem ha
    rw [List.length_take] at hj
    have := hlow j (by omega)
    rw [getD_get _ _ (by omega)] at this
    rw [List.getElem_take, cmpD]
    omega
   have hyd : ∀ b ∈ o.drop k, Dv.cmpL y b ≤ 0 := fun b hb => by
    obtain ⟨j, hj, rfl⟩ := List.getElem_of_mem hb
    rw [List.length_drop] at hj
    have hko : k < o.length := by omega
    have h0 := hhigh hko
    rw [getD_get _ _ hko] at h0
    have h1 : Dv.cmpL y o[k] ≤ 0 := by rw [Dv.cmpL_swap o[k] y, cmpD]; omega
    rw [List.getElem_drop]
    by_cases hj0 : j = 0
    ·subst hj0; exact h1
    ·exact Dv.cmpL_le_trans _ _ _ h1 ((List.pairwise_iff_getElem.1 hpw) k (k + j) hko (by omega) (by omega))
   have hall : ∀ a ∈ o.take k, ∀ b ∈ o.drop k, Dv.cmpL a b ≤ 0 := fun a ha b hb => Dv.cmpL_le_trans _ _ _ (hty a ha) (hyd b hb)
   rw [List.pairwise_append, List.pairwise_append]
   refine ⟨⟨htk, List.pairwise_singleton _ _, fun a ha b hb => ?_⟩, hdr, fun a ha b hb => ?_⟩
   ·rw [List.mem_singleton.1 hb]; exact hty a ha
   ·rcases List.mem_append.1 ha with ha | ha
    ·exact hall a ha b hb
    ·rw [List.mem_singleton.1 ha]; exact hyd b hb
 have hlk : ((o.take k).drop 0).length = k := by rw [List.drop_zero, List.length_take]; omega
 have hld : ((o.take o.length).drop k).length = o.length - k := by rw [List.length_drop, List.take_length]
 have hl2 : (((o.take k).drop 0) ++ [y]).length = k + 1 := by rw [List.length_append, hlk]; rfl
 unfold s_prInsert s_prInsert_l0
 rw [h1, Option.bind_some]
 by_cases hko : k < o.length
 ·have hne : ¬ o.getD k default = y := fun he => hny (by rw [← he, getD_get _ _ hko]; exact List.getElem_mem _)
  obtain ⟨q1, _⟩ := hat k hko
  rw [if_pos (by omega)]
  simp only [Int.toNat_natCast]
  rw [ckT (by omega), l1Same_eq _ _ (by omega), Option.bind_some, decide_eq_false hne, if_neg (by decide), ckT (by omega), ckT (by omega), ckT (by omega), ckT (by omega), ckT (by omega), hres]
 ·rw [if_neg (by omega)]
  simp only [Int.toNat_natCast]
  rw [ckT (by omega), ckT (by omega), ckT (by omega), ckT (by omega), ckT (by omega), hres]
theorem small_of {l : List Int} (h : ∀ x ∈ l, -1 ≤ x ∧ x ≤ 8) : smallI l = true := by
 refine List.all_eq_true.2 fun x hx => inR_iff.2 ?_
 have := h x hx; omega
theorem head_min (y : List Int) (h0 : 0 < y.length) (h1 : ∀ x ∈ y, -1 ≤ x) : (0 ≤ (sortI y).getD 0 default) ↔ y.contains (-1) = false := by
 have hl : 0 < (sortI y).length := by rw [sortI_len]; exact h0
 rw [getD_get _ _ hl]
 constructor
 ·intro h
  rw [Bool.eq_false_iff]
  intro hc
  have hm := (sortI_perm y).mem_iff.2 (List.contains_iff_mem.1 hc)
  obtain ⟨j, hj, he⟩ := List.getElem_of_mem hm
  rcases Nat.eq_zero_or_pos j with hj0 | hj0
  ·subst hj0; omega
  ·have := (List.pairwise_iff_getElem.1 (sortI_pair y)) 0 j hl hj hj0
   omega
 ·intro h
  have hm := (sortI_perm y).mem_iff.1 (List.getElem_mem hl)
  have := h1 _ hm
  rcases Int.lt_or_le ((sortI y)[0]) 0 with hlt | hle
  ·have he : (sortI y)[0] = -1 := by omega
   rw [he] at hm
   have := List.contains_iff_mem.2 hm
   rw [this] at h; cases h
  ·exact hle
theorem s_prMap_eq (l : List (List Int)) (to : List Int) (n s : Nat) (ht : okTo to n) (hl : okC l n s) (hs : s < 1099511627775) (hs0 : 0 < s) (hll : l.length < 1099511627774) (hi : incL l = true) : s_prMap l to = some (sortL (imgs l to)) := by
 unfold s_prMap s_prMap_l0
 have hnd := imgs_nodup ht hl hi
 have key := itO_for (fun v => s_prMap_l0_S l to v.1 v.2) (fun i => (sortL (imgs (l.take i) to), (i : Int))) l.length (sortL (imgs l to)) ?_ ?_
 ·have e0 : sortL (imgs (l.take 0) to) = [] := by rw [List.take_zero, imgs_nil]; simp [sortL]
  simp only [e0, Int.natCast_zero] at key
  rw [key]; rfl
 ·intro i hii
  obtain ⟨h1, h2, h3⟩ := hl l[i] (List.getElem_mem hii)
  have hle := imgs_length_le (l.take i) to
  rw [List.length_take] at hle
  have hbd : ∀ x ∈ img to l[i], -1 ≤ x ∧ x ≤ 8 := fun x hx => ht.2.1 x (img_mem ht h1 hx)
  have hmin := head_min (img to l[i]) (by rw [img_len]; omega) (fun x hx => (hbd x hx).1)
  simp only [s_prMap_l0_S]
  rw [if_pos (lt_nat hii), ckT (ix_nat hii), Int.toNat_natCast, getD_get _ _ hii, coThrough_eq to l[i] n ht.1 h1 (by omega), Option.bind_some, ckT (by rw [img_len]; omega), ckT (by rw [sortI_len, img_len]; omega), take_succ_get _ _ hii, imgs_snoc, wrS i (by omega)]
  by_cases hc : (img to l[i]).contains (-1) = true
  ·rw [if_pos hc, if_neg (fun h => by rw [hmin.1 h] at hc; cases hc)]
  ·have hcf := Bool.eq_false_iff.2 hc
   have hsub : imgs (l.take (i + 1)) to = imgs (l.take i) to ++ [sortI (img to l[i])] := by rw [take_succ_get _ _ hii, imgs_snoc, if_neg hc]
   have hnn : sortI (img to l[i]) ∉ imgs (l.take i) to := by
    have hpre : (imgs (l.take (i + 1)) to).Nodup := by
     have hsl : (imgs (l.take (i + 1)) to).Sublist (imgs l to) := ((List.take_sublist _ _).filter _).map _
     exact hnd.sublist hsl
    rw [hsub, List.nodup_append] at hpre
    intro hm
    exact hpre.2.2 _ hm _ (List.mem_singleton.2 rfl) rfl
   rw [if_neg hc, if_pos (hmin.2 hcf), insert_eq (imgs (l.take i) to) (sortI (img to l[i])) s (by rw [sortI_len, img_len]; exact h3)
    (small_of fun x hx => hbd x ((sortI_perm _).mem_iff.1 hx)) (fun x hx => ?_) hnn (by omega) (by omega), Option.bind_some]
   have hl' : okC (l.take i) n s := fun c hc => hl c (List.mem_of_mem_take hc)
   refine ⟨imgs_len hl' hx, ?_⟩
   obtain ⟨c, hcm, _, rfl⟩ := imgs_mem hx
   exact small_of fun x hx => ht.2.1 x (img_mem ht (hl' c hcm).1 ((sortI_perm _).mem_iff.1 hx))
 ·simp only [s_prMap_l0_S]
  rw [if_neg (not_lt_nat _), List.take_length]

end Go.Proofs.YtdjfaadpmbkcmaaGreat
