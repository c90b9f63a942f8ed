/- The product of two problems: program and reference agree. Conditions: none. -/
import Derived.Test.YtdjfaadpmbkcmaaL6
import Derived.Test.YtdjfaadpmbkcmaaMsA
import Derived.Test.YtdjfaadpmbkcmaaCut
namespace Go.Proofs.Ytdjfaadpmbkcmaa
open Go Dv
set_option linter.unusedSimpArgs false
set_option linter.unusedVariables false
set_option maxRecDepth 100000


theorem take_next {α : Type} (l : List α) (i : Nat) (hi : i < l.length) : l.take (i + 1) = l.take i ++ [l[i]] := by rw [List.take_add_one, List.getElem?_eq_getElem hi]; rfl
/-- The lists that go on from one. -/
def ext (x : List Int) (fr n : Int) : List (List Int) := (List.range (n - fr).toNat).map fun j : Nat => x ++ [fr + (j : Int)]
/-- A list's last number. -/
def lastOf (x : List Int) : Int := if 0 < x.length then x.getD (x.length - 1) default else 0
/-- The non-decreasing lists of some labels. -/
def choices (n : Int) : Nat → List (List Int)
 | 0 => [[]]
 | k + 1 => (choices n k).flatMap fun x => ext x (lastOf x) n
theorem ext_len {x : List Int} {fr n : Int} (h0 : 0 ≤ fr) (hn : n ≤ 8) : (ext x fr n).length ≤ 8 := by simp only [ext, List.length_map, List.length_range]; omega
theorem lastOf_nonneg {x : List Int} (h : ∀ y ∈ x, 0 ≤ y) : 0 ≤ lastOf x := by
 unfold lastOf
 split
 ·rw [getD_get _ _ (by omega)]; exact h _ (List.getElem_mem _)
 ·omega
theorem flat_len {α β : Type} (f : α → List β) (c : Nat) : ∀ (l : List α), (∀ x ∈ l, (f x).length ≤ c) → (l.flatMap f).length ≤ c * l.length
 | [], _ => by simp
 | x :: l, h => by
  rw [List.flatMap_cons, List.length_append, List.length_cons, Nat.mul_add, Nat.mul_one]
  have h1 := h x (by simp)
  have h2 := flat_len f c l (fun y hy => h y (by simp [hy]))
  omega
theorem choices_ok (n : Int) (hn : n ≤ 8) : ∀ k, (∀ x ∈ choices n k, x.length = k ∧ ∀ y ∈ x, 0 ≤ y ∧ y < n) ∧ (choices n k).length ≤ 8 ^ k := by
 intro k
 induction k with
 | zero => simp [choices]
 | succ k ih =>
  obtain ⟨h1, h2⟩ := ih
  have h0 : ∀ x ∈ choices n k, 0 ≤ lastOf x := fun x hx => lastOf_nonneg fun y hy => ((h1 x hx).2 y hy).1
  refine ⟨fun z hz => ?_, ?_⟩
  ·simp only [choices, List.mem_flatMap, ext, List.mem_map, List.mem_range] at hz
   obtain ⟨x, hx, j, hj, rfl⟩ := hz
   have := h0 x hx
   refine ⟨by simp [(h1 x hx).1], fun y hy => ?_⟩
   rw [List.mem_append, List.mem_singleton] at hy
   rcases hy with hy | rfl
   ·exact (h1 x hx).2 y hy
   ·omega
  ·have := flat_len (fun x => ext x (lastOf x) n) 8 (choices n k) (fun x hx => ext_len (h0 x hx) hn)
   show ((choices n k).flatMap fun x => ext x (lastOf x) n).length ≤ _
   rw [Nat.pow_succ]
   omega
theorem i_multisets_l0_ext (labels size : Int) (out : List (List Int)) (k t : Int) (next : List (List Int)) (x : List Int) (hx : out.getD t.toNat default = x) (ht : t.toNat < out.length) (fr : Int) (h0 : 0 ≤ fr) (hl : labels ≤ 8) (hxl : x.length < 1000) (hn : next.length < 1000000) :
  i_multisets_l0 labels size out k t (next, fr) = some (next ++ ext x fr labels) := by
 unfold i_multisets_l0
 have key := itO_for (fun v => i_multisets_l0_S labels size out k t v.1 v.2) (fun i => (next ++ (List.range i).map (fun j : Nat => x ++ [fr + (j : Int)]), fr + (i : Int))) (labels - fr).toNat (next ++ ext x fr labels) ?_ ?_
 ·simpa using key
 ·intro i hi
  have h1 : x.length < 1099511627776 := by omega
  have h1' : 0 + x.length < 1099511627776 := by omega
  have h2 : x.length + 1 < 1099511627776 := by omega
  have h3 : (next ++ (List.range i).map (fun j : Nat => x ++ [fr + (j : Int)])).length + 1 < 1099511627776 := by simp; omega
  simp only [i_multisets_l0_S, s_l1Own, hx]
  rw [if_pos (by omega)]
  simp only [ckT h1, ckT h1', ckT h2, ckT h3, ckT ht, Option.bind_some]
  rw [wr64 _ (by omega), List.range_succ, List.map_append, ← List.append_assoc, show fr + (i : Int) + 1 = fr + ((i + 1 : Nat) : Int) by omega]
  rfl
 ·simp only [i_multisets_l0_S]
  rw [if_neg (by omega)]
  rfl
theorem s_reChoices_l0_ext (labels size : Int) (out : List (List Int)) (k t : Int) (next : List (List Int)) (x : List Int) (hx : out.getD t.toNat default = x) (ht : t.toNat < out.length) (fr : Int) (h0 : 0 ≤ fr) (hl : labels ≤ 8) (hxl : x.length < 1000) (hn : next.length < 1000000) :
  s_reChoices_l0 labels size out k t (next, fr) = some (next ++ ext x fr labels) := by
 unfold s_reChoices_l0
 have key := itO_for (fun v => s_reChoices_l0_S labels size out k t v.1 v.2) (fun i => (next ++ (List.range i).map (fun j : Nat => x ++ [fr + (j : Int)]), fr + (i : Int))) (labels - fr).toNat (next ++ ext x fr labels) ?_ ?_
 ·simpa using key
 ·intro i hi
  have h1 : x.length < 1099511627776 := by omega
  have h1' : 0 + x.length < 1099511627776 := by omega
  have h2 : x.length + 1 < 1099511627776 := by omega
  have h3 : (next ++ (List.range i).map (fun j : Nat => x ++ [fr + (j : Int)])).length + 1 < 1099511627776 := by simp; omega
  simp only [s_reChoices_l0_S, s_l1Own, hx]
  rw [if_pos (by omega)]
  simp only [ckT h1, ckT h1', ckT h2, ckT h3, ckT ht, Option.bind_some]
  rw [wr64 _ (by omega), List.range_succ, List.map_append, ← List.append_assoc, show fr + (i : Int) + 1 = fr + ((i + 1 : Nat) : Int) by omega]
  rfl
 ·simp only [s_reChoices_l0_S]
  rw [if_neg (by omega)]
  rfl
theorem s_reChoices_l0_v1_ext (labels size : Int) (out : List (List Int)) (k t : Int) (next : List (List Int)) (x : List Int) (hx : out.getD t.toNat default = x) (ht : t.toNat < out.length) (fr : Int) (h0 : 0 ≤ fr) (hl : labels ≤ 8) (hxl : x.length < 1000) (hn : next.length < 1000000) :
  s_reChoices_l0_v1 labels size out k t (next, fr) = some (next ++ ext x fr labels) := by
 unfold s_reChoices_l0_v1
 have key := itO_for (fun v => s_reChoices_l0_v1_S labels size out k t v.1 v.2) (fun i => (next ++ (List.range i).map (fun j : Nat => x ++ [fr + (j : Int)]), fr + (i : Int))) (labels - fr).toNat (next ++ ext x fr labels) ?_ ?_
 ·simpa using key
 ·intro i hi
  have h1 : x.length < 1099511627776 := by omega
  have h1' : 0 + x.length < 1099511627776 := by omega
  have h2 : x.length + 1 < 1099511627776 := by omega
  have h3 : (next ++ (List.range i).map (fun j : Nat => x ++ [fr + (j : Int)])).length + 1 < 1099511627776 := by simp; omega
  simp only [s_reChoices_l0_v1_S, s_l1Own, hx]
  rw [if_pos (by omega)]
  simp only [ckT h1, ckT h1', ckT h2, ckT h3, ckT ht, Option.bind_some]
  rw [wr64 _ (by omega), List.range_succ, List.map_append, ← List.append_assoc, show fr + (i : Int) + 1 = fr + ((i + 1 : Nat) : Int) by omega]
  rfl
 ·simp only [s_reChoices_l0_v1_S]
  rw [if_neg (by omega)]
  rfl
theorem i_mid (labels size : Int) (out : List (List Int)) (t : Int) (k : Nat) (hl : labels ≤ 8) (hx : ∀ x ∈ out, x.length = k ∧ ∀ y ∈ x, 0 ≤ y ∧ y < labels) (hk : k ≤ 10) (ho : out.length ≤ 10000) :
  i_multisets_l1 labels size out t ([], 0) = some (out.flatMap fun x => ext x (lastOf x) labels) := by
 have hlast : ∀ x ∈ out, 0 ≤ lastOf x := fun x h => lastOf_nonneg fun y hy => ((hx x h).2 y hy).1
 unfold i_multisets_l1
 refine itO_for (fun v => i_multisets_l1_S labels size out t v.1 v.2) (fun i => ((out.take i).flatMap fun x => ext x (lastOf x) labels, (i : Int))) out.length _ ?_ ?_
 ·intro i hi
  have hg : out.getD ((i : Nat) : Int).toNat default = out[i] := by rw [Int.toNat_natCast]; exact getD_get _ _ hi
  have hm := List.getElem_mem hi
  have h1 := hx _ hm
  have h2 := hlast _ hm
  have h3 : ((out.take i).flatMap fun x => ext x (lastOf x) labels).length < 1000000 := by
   have := flat_len (fun x => ext x (lastOf x) labels) 8 (out.take i) (fun x h => ext_len (hlast x (List.mem_of_mem_take h)) hl)
   have h4 : (out.take i).length ≤ out.length := by rw [List.length_take]; omega
   omega
  have e := i_multisets_l0_ext labels size out t (i : Int) ((out.take i).flatMap fun x => ext x (lastOf x) labels) out[i] hg (by omega) (lastOf out[i]) h2 hl (by omega) h3
  have e2 : (out.take (i + 1)).flatMap (fun x => ext x (lastOf x) labels) = ((out.take i).flatMap fun x => ext x (lastOf x) labels) ++ ext out[i] (lastOf out[i]) labels := by
   rw [take_next _ _ hi, List.flatMap_append, List.flatMap_singleton]
  simp only [i_multisets_l1_S, hg]
  rw [if_pos (lt_nat hi), ckT (by omega), e2]
  by_cases hp : 0 < out[i].length
  ·have e3 : lastOf out[i] = out[i].getD (out[i].length - 1) default := if_pos hp
   rw [if_pos (by omega), wr64 _ (by omega), ckT (by omega), show ((out[i].length : Int) - 1).toNat = out[i].length - 1 by omega, ← e3, e, Option.bind_some, wrS i (by omega)]
  ·have e3 : lastOf out[i] = 0 := if_neg hp
   rw [if_neg (by omega)]
   rw [e3] at e
   rw [e, e3, Option.bind_some, wrS i (by omega)]
 ·simp only [i_multisets_l1_S]
  rw [if_neg (not_lt_nat _), List.take_length]
theorem s_mid (labels size : Int) (out : List (List Int)) (k : Nat) (hl : labels ≤ 8) (hx : ∀ x ∈ out, x.length = k ∧ ∀ y ∈ x, 0 ≤ y ∧ y < labels) (hk : k ≤ 10) (ho : out.length ≤ 10000) :
  s_reChoices_l1 labels size out (k : Int) ([], 0) = some (out.flatMap fun x => ext x (lastOf x) labels) := by
 have hlast : ∀ x ∈ out, 0 ≤ lastOf x := fun x h => lastOf_nonneg fun y hy => ((hx x h).2 y hy).1
 unfold s_reChoices_l1
 refine itO_for (fun v => s_reChoices_l1_S labels size out (k : Int) v.1 v.2) (fun i => ((out.take i).flatMap fun x => ext x (lastOf x) labels, (i : Int))) out.length _ ?_ ?_
 ·intro i hi
  have hg : out.getD ((i : Nat) : Int).toNat default = out[i] := by rw [Int.toNat_natCast]; exact getD_get _ _ hi
  have hm := List.getElem_mem hi
  have h1 := hx _ hm
  have h2 := hlast _ hm
  have h3 : ((out.take i).flatMap fun x => ext x (lastOf x) labels).length < 1000000 := by
   have := flat_len (fun x => ext x (lastOf x) labels) 8 (out.take i) (fun x h => ext_len (hlast x (List.mem_of_mem_take h)) hl)
   have h4 : (out.take i).length ≤ out.length := by rw [List.length_take]; omega
   omega
  have e2 : (out.take (i + 1)).flatMap (fun x => ext x (lastOf x) labels) = ((out.take i).flatMap fun x => ext x (lastOf x) labels) ++ ext out[i] (lastOf out[i]) labels := by
   rw [take_next _ _ hi, List.flatMap_append, List.flatMap_singleton]
  simp only [s_reChoices_l1_S, hg]
  rw [if_pos (lt_nat hi), ckT (by omega), e2]
  by_cases hp : 0 < out[i].length
  ·have e := s_reChoices_l0_ext labels size out (k : Int) (i : Int) ((out.take i).flatMap fun x => ext x (lastOf x) labels) out[i] hg (by omega) (lastOf out[i]) h2 hl (by omega) h3
   have e3 : lastOf out[i] = out[i].getD (out[i].length - 1) default := if_pos hp
   rw [if_pos (by omega), wr64 _ (by omega), ckT (by omega), show ((k : Int) - 1).toNat = out[i].length - 1 by omega, ← e3, e, Option.bind_some, wrS i (by omega)]
  ·have e := s_reChoices_l0_v1_ext labels size out (k : Int) (i : Int) ((out.take i).flatMap fun x => ext x (lastOf x) labels) out[i] hg (by omega) (lastOf out[i]) h2 hl (by omega) h3
   have e3 : lastOf out[i] = 0 := if_neg hp
   rw [if_neg (by omega)]
   rw [e3] at e
   rw [e, e3, Option.bind_some, wrS i (by omega)]
 ·simp only [s_reChoices_l1_S]
  rw [if_neg (not_lt_nat _), List.take_length]
theorem choices_le (n : Int) (hn : n ≤ 8) (k : Nat) (hk : k ≤ 4) : (choices n k).length ≤ 10000 := by
 have h := (choices_ok n hn k).2
 have : 8 ^ k ≤ 8 ^ 4 := Nat.pow_le_pow_right (by omega) hk
 omega
theorem i_multisets_eq (n size : Int) (hn : n ≤ 8) (hs : 0 ≤ size ∧ size ≤ 4) : i_multisets n size = some (choices n size.toNat) := by
 unfold i_multisets i_multisets_l2
 have key := itO_for (fun v => i_multisets_l2_S n size v.1 v.2) (fun i => (choices n i, (i : Int))) size.toNat (choices n size.toNat) ?_ ?_
 ·have e : ((0 : Nat) : Int) = 0 := rfl
  simp only [e] at key
  rw [show (([[]], 0) : List (List Int) × Int) = (choices n 0, 0) from rfl, key]; rfl
 ·intro i hi
  simp only [i_multisets_l2_S]
  rw [if_pos (by omega), i_mid n size _ _ i hn (choices_ok n hn i).1 (by omega) (choices_le n hn i (by omega)), Option.bind_some, wrS i (by omega)]
  rfl
 ·simp only [i_multisets_l2_S]
  rw [if_neg (by omega)]
theorem s_reChoices_eq (n size : Int) (hn : n ≤ 8) (hs : 0 ≤ size ∧ size ≤ 4) : s_reChoices n size = some (choices n size.toNat) := by
 unfold s_reChoices s_reChoices_l2
 have key := itO_for (fun v => s_reChoices_l2_S n size v.1 v.2) (fun i => (choices n i, (i : Int))) size.toNat (choices n size.toNat) ?_ ?_
 ·have e : ((0 : Nat) : Int) = 0 := rfl
  simp only [e] at key
  rw [show (([[]], 0) : List (List Int) × Int) = (choices n 0, 0) from rfl, key]; rfl
 ·intro i hi
  simp only [s_reChoices_l2_S]
  rw [if_pos (by omega), s_mid n size _ i hn (choices_ok n hn i).1 (by omega) (choices_le n hn i (by omega)), Option.bind_some, wrS i (by omega)]
  rfl
 ·simp only [s_reChoices_l2_S]
  rw [if_neg (by omega)]

/-! ### slices.DeleteFunc -/

theorem ix_eq (s : List (List Int)) (f : List Int → Option Bool) (p : List Int → Bool) (hs : s.length < 1099511627776) (hf : ∀ x ∈ s, f x = some (p x)) :
  (g_slices_IndexFunc_SSint_Sint s f = some (-1) ∧ ∀ x ∈ s, p x = false) ∨ ∃ m : Nat, g_slices_IndexFunc_SSint_Sint s f = some (m : Int) ∧ m < s.length ∧ (∀ (h : m < s.length), p s[m] = true) ∧ ∀ j (h : j < s.length), j < m → p s[j] = false := by
 have step : ∀ i (hi : i < s.length), g_slices_IndexFunc_SSint_Sint_l0_S s f (i : Int) = if p s[i] = true then some (.inr (.inl (i : Int))) else some (.inl ((i + 1 : Nat) : Int)) := by
  intro i hi
  simp only [g_slices_IndexFunc_SSint_Sint_l0_S, Int.toNat_natCast]
  rw [if_pos (lt_nat hi), ckT (by omega), getD_get _ _ hi, hf _ (List.getElem_mem hi), Option.bind_some, wrS i (by omega)]
 have fin : g_slices_IndexFunc_SSint_Sint_l0_S s f (s.length : Int) = some (.inr (.inr ())) := by
  simp only [g_slices_IndexFunc_SSint_Sint_l0_S]
  rw [if_neg (not_lt_nat _)]
 by_cases hp : ∀ i, i < s.length → (!p (s.getD i default)) = true
 ·left
  have hp' : ∀ i (hi : i < s.length), p s[i] = false := fun i hi => by have := hp i hi; rw [getD_get _ _ hi] at this; simpa using this
  have := itO_for (fun v => g_slices_IndexFunc_SSint_Sint_l0_S s f v) (fun i => (i : Int)) s.length (.inr ()) (fun i hi => by rw [step i hi, hp' i hi]; rfl) fin
  refine ⟨?_, fun x hx => ?_⟩
  ·unfold g_slices_IndexFunc_SSint_Sint g_slices_IndexFunc_SSint_Sint_l0
   have e : ((0 : Nat) : Int) = 0 := rfl
   simp only [e] at this
   rw [this]; rfl
  ·obtain ⟨i, hi, rfl⟩ := List.getElem_of_mem hx
   exact hp' i hi
 ·right
  obtain ⟨m, h1, h2, h3⟩ := first_fail hp
  have h2' : p s[m] = true := by rw [getD_get _ _ h1] at h2; simpa using h2
  have h3' : ∀ j (h : j < s.length), j < m → p s[j] = false := fun j hj hjm => by have := h3 j hjm; rw [getD_get _ _ hj] at this; simpa using this
  have := itO_for (fun v => g_slices_IndexFunc_SSint_Sint_l0_S s f v) (fun i => (i : Int)) m (.inl (m : Int)) (fun i hi => by rw [step i (by omega), h3' i (by omega) hi]; rfl) (by rw [step m h1, h2']; rfl)
  refine ⟨m, ?_, h1, fun _ => h2', h3'⟩
  unfold g_slices_IndexFunc_SSint_Sint g_slices_IndexFunc_SSint_Sint_l0
  have e : ((0 : Nat) : Int) = 0 := rfl
  simp only [e] at this
  rw [this]; rfl
theorem filt_next {p : List Int → Bool} (s : List (List Int)) (J : Nat) (h : J < s.length) : (s.take (J + 1)).filter p = if p s[J] = true then (s.take J).filter p ++ [s[J]] else (s.take J).filter p := by
 rw [take_next _ _ h, List.filter_append]
 cases hp : p s[J] <;> simp [hp]
theorem del_loop (s : List (List Int)) (f : List Int → Option Bool) (p : List Int → Bool) (hs : s.length < 1099511627776) (hf : ∀ x ∈ s, f x = some (p x)) (m : Nat) (hm : m < s.length) (hpm : p s[m] = true) (hlt : ∀ j (h : j < s.length), j < m → p s[j] = false) :
  ∃ t, g_slices_DeleteFunc_SSint_Sint_l0 f ((m : Int), IntKind.i64.wrap ((m : Int) + 1), s.map some) = some ((((s.filter fun x => !p x).length : Nat) : Int), t) ∧ t.length = s.length ∧ (s.filter fun x => !p x).length ≤ s.length ∧ ∀ k, k < (s.filter fun x => !p x).length → t[k]? = ((s.filter fun x => !p x)[k]?).map some := by
 have h0 : ∀ J, J ≤ m → (s.take J).filter (fun x => !p x) = s.take J := by
  intro J hJ
  rw [List.filter_eq_self]
  intro x hx
  obtain ⟨i, hi, rfl⟩ := List.getElem_of_mem hx
  rw [List.length_take] at hi
  rw [List.getElem_take, hlt i (by omega) (by omega)]; rfl
 have key := itO_inv (fun v => g_slices_DeleteFunc_SSint_Sint_l0_S f v.1 v.2.1 v.2.2)
  (fun n (v : Int × Int × List (Option (List Int))) => ∃ J : Nat, n = s.length - J ∧ J ≤ s.length ∧ v.2.1 = (J : Int) ∧ v.1 = ((((s.take J).filter fun x => !p x).length : Nat) : Int) ∧ ((s.take J).filter fun x => !p x).length < J ∧ v.2.2.length = s.length ∧
   (∀ k, k < ((s.take J).filter fun x => !p x).length → v.2.2[k]? = (((s.take J).filter fun x => !p x)[k]?).map some) ∧ ∀ k, J ≤ k → v.2.2[k]? = (s[k]?).map some)
  (fun r : Int × List (Option (List Int)) => r.1 = (((s.filter fun x => !p x).length : Nat) : Int) ∧ r.2.length = s.length ∧ ∀ k, k < (s.filter fun x => !p x).length → r.2[k]? = ((s.filter fun x => !p x)[k]?).map some)
  ?_ (s.length - (m + 1)) ((m : Int), IntKind.i64.wrap ((m : Int) + 1), s.map some) ?_
 ·obtain ⟨⟨a, t⟩, h1, h2, h3, h4⟩ := key
  simp only at h2 h3 h4
  subst h2
  exact ⟨t, h1, h3, List.length_filter_le _ _, h4⟩
 ·rintro n ⟨i, j, t⟩ ⟨J, hn, hJ, hj, hi, hlt', hlen, hA, hB⟩
  simp only at hj hi hlen hA hB
  subst hj hi
  generalize hK : (s.take J).filter (fun x => !p x) = K at *
  by_cases hJs : J < s.length
  ·left
   have hgJ : t.getD J default = some s[J] := by
    rw [List.getD_eq_getElem?_getD, hB J (Nat.le_refl _), List.getElem?_eq_getElem hJs]; rfl
   have hnext := filt_next (p := fun x => !p x) s J hJs
   rw [hK] at hnext
   simp only [g_slices_DeleteFunc_SSint_Sint_l0_S, Int.toNat_natCast, hgJ]
   rw [if_pos (by omega), ckT (by omega), ckT (by rfl), Option.getD_some, hf _ (List.getElem_mem hJs), Option.bind_some]
   by_cases hpJ : p s[J] = true
   ·rw [if_pos hpJ, wrS J (by omega)]
    rw [hpJ] at hnext
    refine ⟨_, s.length - (J + 1), rfl, by omega, J + 1, rfl, by omega, rfl, ?_⟩
    rw [hnext]
    exact ⟨rfl, by simp; omega, hlen, hA, fun k hk => hB k (by omega)⟩
   ·rw [if_neg hpJ, ckT (by omega), wrS J (by omega), wrS K.length (by omega)]
    have hpf : p s[J] = false := by simpa using hpJ
    rw [hpf] at hnext
    simp only [Bool.not_false, if_true] at hnext
    refine ⟨_, s.length - (J + 1), rfl, by omega, J + 1, rfl, by omega, rfl, ?_⟩
    rw [hnext]
    refine ⟨by simp, by simp; omega, by simp [hlen], fun k hk => ?_, fun k hk => ?_⟩
    ·simp only
     rw [List.length_append, List.length_singleton] at hk
     by_cases hkK : k = K.length
     ·subst hkK
      rw [List.getElem?_set_self (by simp; omega), List.getElem?_append_right (Nat.le_refl _), Nat.sub_self]; rfl
     ·rw [List.getElem?_set_ne (by omega), List.getElem?_set_ne (by omega), hA k (by omega), List.getElem?_append_left (by omega)]
    ·simp only
     rw [List.getElem?_set_ne (by omega), List.getElem?_set_ne (by omega)]
     exact hB k (by omega)
  ·right
   have hJe : J = s.length := by omega
   subst hJe
   rw [List.take_length] at hK
   subst hK
   refine ⟨((((s.filter fun x => !p x).length : Nat) : Int), t), ?_, rfl, hlen, hA⟩
   simp only [g_slices_DeleteFunc_SSint_Sint_l0_S]
   rw [if_neg (by omega)]
 ·refine ⟨m + 1, rfl, by omega, wrS m (by omega), ?_⟩
  have e := filt_next (p := fun x => !p x) s m hm
  rw [hpm, h0 m (Nat.le_refl _)] at e
  simp only [Bool.not_true, Bool.false_eq_true, if_false] at e
  rw [e]
  have el : (s.take m).length = m := by rw [List.length_take]; omega
  rw [el]
  refine ⟨rfl, by omega, by simp, fun k hk => ?_, fun k hk => ?_⟩
  ·simp only
   rw [List.getElem?_map, List.getElem?_take_of_lt hk]
  ·simp only
   rw [List.getElem?_map]
theorem del_eq (s : List (List Int)) (f : List Int → Option Bool) (p : List Int → Bool) (hs : s.length < 1099511627776) (hf : ∀ x ∈ s, f x = some (p x)) : g_slices_DeleteFunc_SSint_Sint s f = some (s.filter fun x => !p x) := by
 unfold g_slices_DeleteFunc_SSint_Sint
 rcases ix_eq s f p hs hf with ⟨h1, h2⟩ | ⟨m, h1, h2, h3, h4⟩
 ·rw [h1, Option.bind_some, if_pos rfl]
  congr 1
  symm
  rw [List.filter_eq_self]
  intro x hx
  rw [h2 x hx]; rfl
 ·rw [h1, Option.bind_some, if_neg (by omega)]
  obtain ⟨t, e1, e2, e3, e4⟩ := del_loop s f p hs hf m h2 (h3 h2) h4
  rw [e1, Option.bind_some]
  generalize hK : (s.filter fun x => !p x) = K at *
  simp only [Int.toNat_natCast]
  have hr : ((List.replicate (t.length - K.length) ([] : List Int)).map some).length = t.length - K.length := by simp
  have hsp := spl_eq ((List.replicate (t.length - K.length) ([] : List Int)).map some) t K.length (by omega)
  have htk : (spl t K.length ((List.replicate (t.length - K.length) ([] : List Int)).map some)).take K.length = K.map some := by
   rw [hsp, List.take_append_of_le_length (by rw [List.length_take]; omega), List.take_take, Nat.min_self]
   refine List.ext_getElem? fun k => ?_
   rw [List.getElem?_map]
   by_cases hk : k < K.length
   ·rw [List.getElem?_take_of_lt hk, e4 k hk]
   ·rw [List.getElem?_eq_none (by rw [List.length_take]; omega), List.getElem?_eq_none (by omega)]; rfl
  have hln : K.length ≤ (spl t K.length ((List.replicate (t.length - K.length) ([] : List Int)).map some)).length := by
   rw [hsp, List.length_append, List.length_take]; omega
  rw [ckT (by omega), ckT (by omega), ckT (by omega), ckT hln, ckT (by rw [htk]; simp), htk]
  simp [Function.comp_def]

/-! ### The halves of labels -/

def hv (x : List Int) (k : Int) : List Int := x.map fun y => y.tdiv k
def md (x : List Int) (k : Int) : List Int := x.map fun y => y.tmod k
theorem div_small {y k : Int} (hy : 0 ≤ y ∧ y < 8) (hk : 1 ≤ k ∧ k ≤ 8) : 0 ≤ y.tdiv k ∧ y.tdiv k < 8 := by
 rw [Int.tdiv_eq_ediv_of_nonneg hy.1]
 have := Int.ediv_nonneg hy.1 (by omega : 0 ≤ k)
 have := Int.ediv_le_self k hy.1
 omega
theorem i_parts_eq (x : List Int) (k : Int) (hk : 1 ≤ k ∧ k ≤ 8) (hx : ∀ y ∈ x, 0 ≤ y ∧ y < 8) (hl : x.length < 1000) : i_parts x k = some (hv x k, md x k) := by
 have key := itO_for (fun v => i_parts_l0_S x k v.1 v.2.1 v.2.2) (fun i => ((x.take i).map (fun y => y.tdiv k), (x.take i).map (fun y => y.tmod k), (i : Int))) x.length (hv x k, md x k) ?_ ?_
 ·unfold i_parts i_parts_l0
  have e : ((0 : Nat) : Int) = 0 := rfl
  simp only [e, List.take_zero, List.map_nil] at key
  rw [key]; rfl
 ·intro i hi
  have hm := List.getElem_mem hi
  have hd := div_small (hx _ hm) hk
  have l1 : (x.take i).length ≤ x.length := by rw [List.length_take]; omega
  simp only [i_parts_l0_S, Int.toNat_natCast]
  rw [if_pos (lt_nat hi), ckT (by omega), ckT (by omega), ckT (by rw [List.length_map]; omega), ckT (by rw [List.length_map]; omega), getD_get _ _ hi, wr64 _ (by omega), wrS i (by omega), take_next _ _ hi, List.map_append, List.map_append]
  rfl
 ·simp only [i_parts_l0_S]
  rw [if_neg (not_lt_nat _), List.take_length]
  rfl
theorem s_reHalves_eq (x : List Int) (k : Int) (hk : 1 ≤ k ∧ k ≤ 8) (hx : ∀ y ∈ x, 0 ≤ y ∧ y < 8) (hl : x.length < 1000) : s_reHalves x k = some (hv x k, md x k) := by
 have key := itO_for (fun v => s_reHalves_l0_S x k v.1 v.2.1 v.2.2) (fun i => ((x.take i).map (fun y => y.tdiv k), (x.take i).map (fun y => y.tmod k), (i : Int))) x.length (hv x k, md x k) ?_ ?_
 ·unfold s_reHalves s_reHalves_l0
  have e : ((0 : Nat) : Int) = 0 := rfl
  simp only [e, List.take_zero, List.map_nil] at key
  rw [key]; rfl
 ·intro i hi
  have hm := List.getElem_mem hi
  have hd := div_small (hx _ hm) hk
  have l1 : (x.take i).length ≤ x.length := by rw [List.length_take]; omega
  simp only [s_reHalves_l0_S, Int.toNat_natCast]
  rw [if_pos (lt_nat hi), ckT (by omega), ckT (by omega), ckT (by rw [List.length_map]; omega), ckT (by rw [List.length_map]; omega), getD_get _ _ hi, wr64 _ (by omega), wrS i (by omega), take_next _ _ hi, List.map_append, List.map_append]
  rfl
 ·simp only [s_reHalves_l0_S]
  rw [if_neg (not_lt_nat _), List.take_length]
  rfl
/-- Both halves of a configuration are allowed. -/
def goodP (l m : List (List Int)) (k : Int) (x : List Int) : Bool := l.contains (sortI (hv x k)) && m.contains (sortI (md x k))
theorem hv_len (x : List Int) (k : Int) : (hv x k).length = x.length := by simp [hv]
theorem md_len (x : List Int) (k : Int) : (md x k).length = x.length := by simp [md]
theorem prod_loop (l m : List (List Int)) (k : Int) (r : List (List Int)) (hk : 1 ≤ k ∧ k ≤ 8) (hl : l.length < 1099511627776) (hm : m.length < 1099511627776) (hr : r.length ≤ 10000) (hx : ∀ x ∈ r, x.length ≤ 4 ∧ ∀ y ∈ x, 0 ≤ y ∧ y < 8) :
  s_reProduct_l0 l m k r ([], 0) = some (r.filter (goodP l m k)) := by
 unfold s_reProduct_l0
 have key := itO_for (fun v => s_reProduct_l0_S l m k r v.1 v.2) (fun i => ((r.take i).filter (goodP l m k), (i : Int))) r.length (r.filter (goodP l m k)) ?_ ?_
 ·have e : ((0 : Nat) : Int) = 0 := rfl
  simp only [e, List.take_zero, List.filter_nil] at key
  exact key
 ·intro i hi
  have h1 := hx _ (List.getElem_mem hi)
  have h2 : ((r.take i).filter (goodP l m k)).length ≤ r.length := Nat.le_trans (List.length_filter_le _ _) (by rw [List.length_take]; omega)
  have hnext := filt_next (p := goodP l m k) r i hi
  simp only [s_reProduct_l0_S, Int.toNat_natCast]
  rw [if_pos (lt_nat hi), ckT (by omega), getD_get _ _ hi, s_reHalves_eq _ _ hk h1.2 (by omega), Option.bind_some]
  simp only
  rw [ckT (by rw [hv_len]; omega), ckT hl, ckT (by rw [sortI_len, hv_len]; omega), ckT (by rw [md_len]; omega), ckT hm, ckT (by rw [sortI_len, md_len]; omega), wrS i (by omega), hnext]
  unfold goodP at *
  cases c1 : l.contains (sortI (hv r[i] k)) <;> cases c2 : m.contains (sortI (md r[i] k)) <;> simp only [Bool.and_true, Bool.and_false, Bool.false_eq_true, if_true, if_false]
  rw [ckT (by omega)]
 ·simp only [s_reProduct_l0_S]
  rw [if_neg (not_lt_nat _), List.take_length]
theorem s_reProduct_eq (l m : List (List Int)) (n size k : Int) (hn : n ≤ 8) (hs : 0 ≤ size ∧ size ≤ 4) (hk : 1 ≤ k ∧ k ≤ 8) (hl : l.length < 1099511627776) (hm : m.length < 1099511627776) : s_reProduct l m n size k = some ((choices n size.toNat).filter (goodP l m k)) := by
 have h := (choices_ok n hn size.toNat).1
 unfold s_reProduct
 rw [s_reChoices_eq n size hn hs, Option.bind_some, prod_loop l m k _ hk hl hm (choices_le n hn _ (by omega)) (fun x hx => ⟨by have := (h x hx).1; omega, fun y hy => by have := (h x hx).2 y hy; omega⟩), Option.bind_some]
theorem allowed_eq (n size : Int) (good : List Int → Option Bool) (g : List Int → Bool) (hn : n ≤ 8) (hs : 0 ≤ size ∧ size ≤ 4) (hg : ∀ x ∈ choices n size.toNat, good x = some (g x)) : i_allowedBy n size good = some ((choices n size.toNat).filter g) := by
 unfold i_allowedBy
 rw [i_multisets_eq n size hn hs, Option.bind_some, del_eq _ _ (fun x => !g x) (by have := choices_le n hn size.toNat (by omega); omega) (fun x hx => by unfold i_allowedBy_1; rw [hg x hx]; rfl), Option.bind_some]
 simp only [Bool.not_not]
theorem two_eq (l : List Int) (h : l.length = 2) : [l.getD 0 default, l.getD 1 default] = l := by
 match l, h with
 | [a, b], _ => rfl
theorem node_eq (x : List Int) (k qd : Int) (qn qe : List (List Int)) (pl pd : Int) (pn pe : List (List Int)) (hk : 1 ≤ k ∧ k ≤ 8) (hp : Short pn) (hq : Short qn) (ip : incL pn = true) (iq : incL qn = true) (hx : ∀ y ∈ x, 0 ≤ y ∧ y < 8) (hl : x.length ≤ 4) :
  i_ProductProblem_1 x k qd qn qe pl pd pn pe = some (goodP pn qn k x) := by
 unfold i_ProductProblem_1 i_Problem_node goodP
 rw [i_parts_eq x k hk hx (by omega), Option.bind_some]
 simp only
 rw [ckT hp, ckT (by rw [hv_len]; omega), ckT ip, ckT hq, ckT (by rw [md_len]; omega), ckT iq, Option.bind_some, Option.bind_some]
 cases pn.contains (sortI (hv x k)) <;> rfl
theorem edge_eq (x : List Int) (k qd : Int) (qn qe : List (List Int)) (pl pd : Int) (pn pe : List (List Int)) (hk : 1 ≤ k ∧ k ≤ 8) (hp : Short pe) (hq : Short qe) (ip : incL pe = true) (iq : incL qe = true) (hx : ∀ y ∈ x, 0 ≤ y ∧ y < 8) (hl : x.length = 2) :
  i_ProductProblem_2 x k qd qn qe pl pd pn pe = some (goodP pe qe k x) := by
 unfold i_ProductProblem_2 i_Problem_edge goodP
 rw [i_parts_eq x k hk hx (by omega), Option.bind_some]
 simp only
 rw [two_eq _ (by rw [hv_len]; exact hl), two_eq _ (by rw [md_len]; exact hl)]
 rw [ckT (by rw [hv_len]; omega), ckT (by rw [hv_len]; omega), ckT hp, ckT (by rw [hv_len]; omega), ckT ip, ckT (by rw [md_len]; omega), ckT (by rw [md_len]; omega), ckT hq, ckT (by rw [md_len]; omega), ckT iq, Option.bind_some, Option.bind_some]
 cases pe.contains (sortI (hv x k)) <;> rfl
theorem tot_le (c : Int) : ∀ (l : List (List Int)), (∀ x ∈ l, (x.length : Int) ≤ c) → tot l ≤ c * l.length
 | [], _ => by simp [tot_nil]
 | x :: l, h => by
  have h1 := h x (by simp)
  have h2 := tot_le c l (fun y hy => h y (by simp [hy]))
  rw [tot_cons, List.length_cons, Int.natCast_add, Int.mul_add]
  omega
theorem filt_small (n : Int) (hn : n ≤ 8) (k : Nat) (hk : k ≤ 4) (g : List Int → Bool) : ((choices n k).filter g).length ≤ 10000 ∧ tot ((choices n k).filter g) ≤ 40000 := by
 have h1 := choices_le n hn k hk
 have h2 := List.length_filter_le g (choices n k)
 have h3 := tot_le 4 ((choices n k).filter g) (fun x hx => by
  have := ((choices_ok n hn k).1 x (List.mem_filter.1 hx).1).1
  omega)
 omega
theorem prod_both (a d : Int) (ns es : List (List Int)) (b e : Int) (ms fs : List (List Int)) (hn : Short ns) (he : Short es) (hm : Short ms) (hf : Short fs) :
  (s_ProductProblem a d ns es b e ms fs = some (0, 0, [], [], false) ∧ i_ProductProblem a d ns es b e ms fs = some (0, 0, [], [], false)) ∨
  ∃ L N E, s_ProductProblem a d ns es b e ms fs = some (L, d, N, E, true) ∧ i_ProductProblem a d ns es b e ms fs = some (L, d, N, E, true) ∧ N.length ≤ 10000 ∧ tot N ≤ 40000 ∧ E.length ≤ 10000 ∧ tot E ≤ 40000 := by
 unfold s_ProductProblem i_ProductProblem s_reTwo i_areProblems
 simp only [ckT hn, ckT he, ckT hm, ckT hf]
 by_cases h : isProb a d ns es = true
 ·by_cases h' : isProb b e ms fs = true
  ·simp only [if_pos h, if_pos h', Option.bind_some]
   obtain ⟨h1, h2, h3, h4⟩ := isProb_cut h
   obtain ⟨k1, k2, k3, k4⟩ := isProb_cut h'
   have hab : 1 ≤ a * b ∧ a * b ≤ 64 := by
    have t1 : a * b ≤ 8 * b := Int.mul_le_mul_of_nonneg_right h1.2 (by omega)
    have t2 : 1 * b ≤ a * b := Int.mul_le_mul_of_nonneg_right h1.1 (by omega)
    omega
   rw [wr64 (a * b) (by omega)]
   generalize a * b = n at *
   by_cases hd : d = e
   ·simp only [decide_eq_true hd, ↓reduceIte]
    by_cases h8 : 8 < n
    ·simp only [if_pos h8]; exact .inl ⟨by trivial, by trivial⟩
    ·simp only [if_neg h8]
     right
     have hn8 : n ≤ 8 := by omega
     have ok := choices_ok n hn8
     have f1 := filt_small n hn8 d.toNat (by omega) (goodP ns ms b)
     have f2 := filt_small n hn8 2 (by omega) (goodP es fs b)
     refine ⟨n, _, _, ?_, ?_, f1.1, f1.2, f2.1, f2.2⟩
     ·rw [s_reProduct_eq ns ms n d b hn8 (by omega) k1 hn.1 hm.1, Option.bind_some, s_reProduct_eq es fs n 2 b hn8 (by omega) k1 he.1 hf.1, Option.bind_some]
      rfl
     ·rw [allowed_eq n d _ (goodP ns ms b) hn8 (by omega) (fun x hx => node_eq x b e ms fs a d ns es k1 hn hm (confs_inc h3) (confs_inc k3) (fun y hy => by have := ((ok d.toNat).1 x hx).2 y hy; omega) (by have := ((ok d.toNat).1 x hx).1; omega)), Option.bind_some,
       allowed_eq n 2 _ (goodP es fs b) hn8 (by omega) (fun x hx => edge_eq x b e ms fs a d ns es k1 he hf (confs_inc h4) (confs_inc k4) (fun y hy => by have := ((ok 2).1 x hx).2 y hy; omega) (((ok 2).1 x hx).1)), Option.bind_some]
      rfl
   ·simp only [decide_eq_false hd, Bool.false_eq_true, if_false]; exact .inl ⟨by trivial, by trivial⟩
  ·simp only [if_pos h, if_neg h']; exact .inl ⟨by trivial, by trivial⟩
 ·simp only [if_neg h]; exact .inl ⟨by trivial, by trivial⟩
theorem prod_one (a d : Int) (ns es : List (List Int)) (b e : Int) (ms fs : List (List Int)) (hn : Short ns) (he : Short es) (hm : Short ms) (hf : Short fs) :
  ∃ L K N E ok, Short N ∧ Short E ∧ tot N + tot E ≤ 100000 ∧ s_ProductProblem a d ns es b e ms fs = some (L, K, N, E, ok) ∧ i_ProductProblem a d ns es b e ms fs = some (L, K, N, E, ok) := by
 rcases prod_both a d ns es b e ms fs hn he hm hf with ⟨h1, h2⟩ | ⟨L, N, E, h1, h2, l1, l2, l3, l4⟩
 ·exact ⟨0, 0, [], [], false, Short.nil, Short.nil, by simp [tot_nil], h1, h2⟩
 ·exact ⟨L, d, N, E, true, tot_short (by omega), tot_short (by omega), by omega, h1, h2⟩

end Go.Proofs.Ytdjfaadpmbkcmaa
