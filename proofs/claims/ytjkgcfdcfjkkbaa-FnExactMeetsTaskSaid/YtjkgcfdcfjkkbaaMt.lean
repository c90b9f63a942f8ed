/- Whether outputs meet a task: program and reference agree. Conditions: none. -/
import Derived.Test.YtjkgcfdcfjkkbaaL6
import Derived.Test.YtjkgcfdcfjkkbaaMtA
import Derived.Test.YtjkgcfdcfjkkbaaFst
namespace Go.Proofs.Ytjkgcfdcfjkkbaa
open Go Dv
set_option linter.unusedSimpArgs false
set_option linter.unusedVariables false
set_option maxRecDepth 100000


/-! ### Edges -/

/-- An edge is told at the lesser of its ends. -/
def condE (E : List (List (Int × Int))) (v i : Nat) : Bool := decide ((v : Int) < fstD (E.getD v default) i) || (decide ((v : Int) = fstD (E.getD v default) i) && decide ((i : Int) ≤ sndD (E.getD v default) i))
def edV (E : List (List (Int × Int))) (v : Nat) : Nat → List (Int × Int × Int × Int)
 | 0 => []
 | i + 1 => if condE E v i = true then edV E v i ++ [((v : Int), (i : Int), fstD (E.getD v default) i, sndD (E.getD v default) i)] else edV E v i
def edL (E : List (List (Int × Int))) : Nat → List (Int × Int × Int × Int)
 | 0 => []
 | v + 1 => edL E v ++ edV E v (E.getD v default).length
theorem edV_len (E : List (List (Int × Int))) (v : Nat) : ∀ i, (edV E v i).length ≤ i
 | 0 => Nat.le_refl _
 | i + 1 => by
  have := edV_len E v i
  unfold edV
  split
  ·rw [List.length_append, List.length_singleton]; omega
  ·omega
theorem edL_len (E : List (List (Int × Int))) (h : ∀ v, v < E.length → (E.getD v default).length ≤ 6) : ∀ v, v ≤ E.length → (edL E v).length ≤ 6 * v
 | 0, _ => Nat.le_refl _
 | v + 1, hv => by
  have h1 := edL_len E h v (by omega)
  have h2 := edV_len E v (E.getD v default).length
  have h3 := h v (by omega)
  unfold edL
  rw [List.length_append]; omega
theorem edV_mem (E : List (List (Int × Int))) (v : Nat) (x : Int × Int × Int × Int) : ∀ n, x ∈ edV E v n ↔ ∃ i, i < n ∧ condE E v i = true ∧ x = ((v : Int), (i : Int), fstD (E.getD v default) i, sndD (E.getD v default) i)
 | 0 => by simp [edV]
 | n + 1 => by
  have ih := edV_mem E v x n
  unfold edV
  split
  ·rename_i hc
   rw [List.mem_append, List.mem_singleton, ih]
   constructor
   ·rintro (⟨i, h1, h2, h3⟩ | h)
    ·exact ⟨i, by omega, h2, h3⟩
    ·exact ⟨n, by omega, hc, h⟩
   ·rintro ⟨i, h1, h2, h3⟩
    by_cases e : i = n
    ·subst e; exact .inr h3
    ·exact .inl ⟨i, by omega, h2, h3⟩
  ·rename_i hc
   rw [ih]
   constructor
   ·rintro ⟨i, h1, h2, h3⟩; exact ⟨i, by omega, h2, h3⟩
   ·rintro ⟨i, h1, h2, h3⟩
    by_cases e : i = n
    ·subst e; exact absurd h2 hc
    ·exact ⟨i, by omega, h2, h3⟩
theorem edL_mem (E : List (List (Int × Int))) (x : Int × Int × Int × Int) : ∀ n, x ∈ edL E n ↔ ∃ v i, v < n ∧ i < (E.getD v default).length ∧ condE E v i = true ∧ x = ((v : Int), (i : Int), fstD (E.getD v default) i, sndD (E.getD v default) i)
 | 0 => by simp [edL]
 | n + 1 => by
  unfold edL
  rw [List.mem_append, edL_mem E x n, edV_mem]
  constructor
  ·rintro (⟨v, i, h1, h2⟩ | ⟨i, h1, h2⟩)
   ·exact ⟨v, i, by omega, h2⟩
   ·exact ⟨n, i, by omega, h1, h2⟩
  ·rintro ⟨v, i, h1, h2, h3⟩
   by_cases e : v = n
   ·subst e; exact .inr ⟨i, h2, h3⟩
   ·exact .inl ⟨v, i, by omega, h2, h3⟩
theorem edges_in (E : List (List (Int × Int))) (v : Nat) (out : List (Int × Int × Int × Int)) (hd : (E.getD v default).length ≤ 6) (ho : out.length ≤ 1000) :
  i_Network_edges_l0 E (v : Int) (out, 0) = some (out ++ edV E v (E.getD v default).length) := by
 unfold i_Network_edges_l0
 have key := itO_for (fun w => i_Network_edges_l0_S E (v : Int) w.1 w.2) (fun i => (out ++ edV E v i, (i : Int))) (E.getD v default).length (out ++ edV E v (E.getD v default).length) ?_ ?_
 ·have e : ((0 : Nat) : Int) = 0 := rfl
  simp only [e, edV, List.append_nil] at key
  exact key
 ·intro i hi
  have hl := edV_len E v i
  have hlen : (out ++ edV E v i).length * 4 + 4 < 1099511627776 := by rw [List.length_append]; omega
  simp only [i_Network_edges_l0_S, Int.toNat_natCast]
  rw [if_pos (lt_nat hi), ckT (by omega), wrS i (by omega)]
  have hc : condE E v i = (decide ((v : Int) < fstD (E.getD v default) i) || (decide ((v : Int) = fstD (E.getD v default) i) && decide ((i : Int) ≤ sndD (E.getD v default) i))) := rfl
  have hs : edV E v (i + 1) = if condE E v i = true then edV E v i ++ [((v : Int), (i : Int), fstD (E.getD v default) i, sndD (E.getD v default) i)] else edV E v i := rfl
  rw [hs]
  by_cases c1 : (v : Int) < fstD (E.getD v default) i
  ·rw [if_pos c1, ckT hlen, if_pos (by rw [hc, decide_eq_true c1]; rfl), List.append_assoc]
  ·rw [if_neg c1]
   by_cases c2 : (v : Int) = fstD (E.getD v default) i
   ·rw [if_pos c2]
    by_cases c3 : (i : Int) ≤ sndD (E.getD v default) i
    ·rw [if_pos c3, ckT hlen, if_pos (by rw [hc, decide_eq_true c2, decide_eq_true c3, Bool.and_true, Bool.or_true]), List.append_assoc]
    ·rw [if_neg c3, if_neg (by rw [hc, decide_eq_false c1, decide_eq_false c3, Bool.and_false]; simp)]
   ·rw [if_neg c2, if_neg (by rw [hc, decide_eq_false c1, decide_eq_false c2]; simp)]
 ·simp only [i_Network_edges_l0_S, Int.toNat_natCast]
  rw [if_neg (not_lt_nat _)]
theorem edges_eq (E : List (List (Int × Int))) (ids ins : List Int) (hE : E.length ≤ 40) (hd : ∀ v, v < E.length → (E.getD v default).length ≤ 6) : i_Network_edges E ids ins = some (edL E E.length) := by
 unfold i_Network_edges i_Network_edges_l1
 have key := itO_for (fun w => i_Network_edges_l1_S E w.1 w.2) (fun v => (edL E v, (v : Int))) E.length (edL E E.length) ?_ ?_
 ·have e : ((0 : Nat) : Int) = 0 := rfl
  simp only [e] at key
  rw [show (([], 0) : List (Int × Int × Int × Int) × Int) = (edL E 0, 0) from rfl, key]; rfl
 ·intro v hv
  have hl := edL_len E hd v (by omega)
  simp only [i_Network_edges_l1_S]
  rw [if_pos (lt_nat hv), ckT (by omega), edges_in E v _ (hd v hv) (by omega), Option.bind_some, wrS v (by omega)]
  rfl
 ·simp only [i_Network_edges_l1_S]
  rw [if_neg (not_lt_nat _)]
theorem con_eq (L : List (Int × Int × Int × Int)) (f : Int → Int → Int → Int → Option Bool) (p : Int × Int × Int × Int → Bool) (hL : L.length < 1099511627776) (hf : ∀ x ∈ L, f x.1 x.2.1 x.2.2.1 x.2.2.2 = some (p x)) :
  g_slices_ContainsFunc_Sloop_example_g01084_impl_edge_loop_example_g01084_impl_edge L f = some (L.any p) := by
 unfold g_slices_ContainsFunc_Sloop_example_g01084_impl_edge_loop_example_g01084_impl_edge g_slices_IndexFunc_Sloop_example_g01084_impl_edge_loop_example_g01084_impl_edge g_slices_IndexFunc_Sloop_example_g01084_impl_edge_loop_example_g01084_impl_edge_l0
 have key := itO_find (fun v => g_slices_IndexFunc_Sloop_example_g01084_impl_edge_loop_example_g01084_impl_edge_l0_S L f v) (fun i => (i : Int)) L.length (fun i => p (L.getD i default)) (fun i => .inl (i : Int)) (.inr ()) ?_ ?_
 ·rw [Int.natCast_zero] at key
  rw [key]
  have hany : L.any p = (firstIx L.length fun i => p (L.getD i default)).isSome := by
   rw [Bool.eq_iff_iff, firstIx_isSome, List.any_eq_true]
   constructor
   ·rintro ⟨x, hx, hp⟩
    obtain ⟨i, hi, rfl⟩ := List.getElem_of_mem hx
    exact ⟨i, hi, by rw [getD_get _ _ hi]; exact hp⟩
   ·rintro ⟨i, hi, hp⟩
    rw [getD_get _ _ hi] at hp
    exact ⟨_, List.getElem_mem hi, hp⟩
  rw [hany]
  cases firstIx L.length fun i => p (L.getD i default) with
  | none => rfl
  | some i => simp
 ·intro i hi
  have hx := hf _ (List.getElem_mem hi)
  simp only [g_slices_IndexFunc_Sloop_example_g01084_impl_edge_loop_example_g01084_impl_edge_l0_S, Int.toNat_natCast, q4a, q4b, q4c, q4d]
  rw [if_pos (lt_nat hi), ckT (by omega), getD_get _ _ hi, hx, Option.bind_some, wrS i (by omega)]
 ·simp only [g_slices_IndexFunc_Sloop_example_g01084_impl_edge_loop_example_g01084_impl_edge_l0_S]
  rw [if_neg (not_lt_nat _)]

/-! ### Pairs of neighbours -/

theorem near_eq (E : List (List (Int × Int))) (ids ins : List Int) (v : Nat) (hv : v < E.length) (hd : (E.getD v default).length ≤ 6) : s_neNear E ids ins (v : Int) = some ((E.getD v default).map (·.1)) := by
 unfold s_neNear s_neNear_l0
 rw [ckT (by omega)]
 have key := itO_for (fun x => s_neNear_l0_S E (v : Int) x.1 x.2) (fun i => (((E.getD v default).take i).map (·.1), (i : Int))) (E.getD v default).length ((E.getD v default).map (·.1)) ?_ ?_
 ·have e : ((0 : Nat) : Int) = 0 := rfl
  simp only [e, List.take_zero, List.map_nil] at key
  rw [key]; rfl
 ·intro i hi
  simp only [s_neNear_l0_S, Int.toNat_natCast]
  rw [if_pos (lt_nat hi), ckT (by omega), ckT (by rw [List.length_map, List.length_take]; omega), wrS i (by omega), List.take_add_one, List.getElem?_eq_getElem hi, List.map_append]
  unfold fstD
  rw [getD_get (E.getD v default) _ hi]; rfl
 ·simp only [s_neNear_l0_S, Int.toNat_natCast]
  rw [if_neg (not_lt_nat _), List.take_length]
/-- Two neighbours, the second one not before the first one, with the same number. -/
def samB (E : List (List (Int × Int))) (l : List Int) (u i : Nat) : Bool := ((E.getD u default).map (·.1)).contains (((u + i : Nat) : Int)) && decide (l.getD u default = l.getD (u + i) default)
theorem edge_eq (E : List (List (Int × Int))) (ids ins l : List Int) (hE : E.length ≤ 40) (hd : ∀ v, v < E.length → (E.getD v default).length ≤ 6) (hl : l.length = E.length) :
  ∃ a b, s_imEdge E ids ins l = some (a, b, (firstIx E.length fun u => (firstIx (E.length - u) (samB E l u)).isSome).isSome) := by
 have inner : ∀ u : Nat, u < E.length → s_imEdge_l0 E ids ins l (u : Int) ((E.getD u default).map (·.1)) (u : Int) = some (match firstIx (E.length - u) (samB E l u) with | some i => .inl (((u + i : Nat) : Int)) | none => .inr ()) := by
  intro u hu
  have hdu := hd u hu
  have key := itO_find (fun v => s_imEdge_l0_S E ids ins l (u : Int) ((E.getD u default).map (·.1)) v) (fun i => ((u + i : Nat) : Int)) (E.length - u) (samB E l u) (fun i => .inl (((u + i : Nat) : Int))) (.inr ()) ?_ ?_
  ·unfold s_imEdge_l0
   rw [Nat.add_zero] at key
   exact key
  ·intro i hi
   simp only [s_imEdge_l0_S, Int.toNat_natCast]
   rw [if_pos (lt_nat (by omega)), ckT (by rw [List.length_map]; omega), wrS (u + i) (by omega)]
   unfold samB
   cases hc : ((E.getD u default).map (·.1)).contains (((u + i : Nat) : Int)) with
   | false => rfl
   | true =>
    rw [if_pos rfl, ckT (by omega), ckT (by omega), Bool.true_and]
    by_cases e : l.getD u default = l.getD (u + i) default
    ·rw [if_pos e, decide_eq_true e]; rfl
    ·rw [if_neg e, decide_eq_false e]; rfl
  ·simp only [s_imEdge_l0_S]
   rw [if_neg (by omega)]
 have key := itO_find (fun v => s_imEdge_l1_S E ids ins l v) (fun i => (i : Int)) E.length (fun u => (firstIx (E.length - u) (samB E l u)).isSome) (fun u => .inl ((u : Int), match firstIx (E.length - u) (samB E l u) with | some i => ((u + i : Nat) : Int) | none => 0)) (.inr ()) ?_ ?_
 ·unfold s_imEdge s_imEdge_l1
  rw [Int.natCast_zero] at key
  rw [key]
  cases firstIx E.length fun u => (firstIx (E.length - u) (samB E l u)).isSome with
  | none => exact ⟨0, 0, rfl⟩
  | some u => exact ⟨_, _, rfl⟩
 ·intro u hu
  simp only [s_imEdge_l1_S]
  rw [if_pos (lt_nat hu), near_eq E ids ins u hu (hd u hu), Option.bind_some, inner u hu, Option.bind_some, wrS u (by omega)]
  cases firstIx (E.length - u) (samB E l u) <;> rfl
 ·simp only [s_imEdge_l1_S]
  rw [if_neg (not_lt_nat _)]
theorem net_port {E : List (List (Int × Int))} {ids ins : List Int} (h : isNet E ids ins = true) : E.length ≤ 40 ∧ 1 ≤ E.length ∧ (∀ v, v < E.length → (E.getD v default).length ≤ 6) ∧
  ∀ v i, v < E.length → i < (E.getD v default).length → ∃ w p : Nat, fstD (E.getD v default) i = (w : Int) ∧ sndD (E.getD v default) i = (p : Int) ∧ w < E.length ∧ p < (E.getD w default).length ∧ fstD (E.getD w default) p = (v : Int) ∧ sndD (E.getD w default) p = (i : Int) := by
 unfold isNet at h
 simp only [Bool.and_eq_true] at h
 obtain ⟨h1, _, _, _, h5⟩ := h
 have h1 := inR_iff.1 h1
 have hn : ∀ v, v < E.length → nodeB E v = true := range_all.1 h5
 refine ⟨by omega, by omega, fun v hv => ?_, fun v i hv hi => ?_⟩
 ·have := hn v hv
  rw [nodeB_def, Bool.and_eq_true, decide_eq_true_eq] at this
  exact this.1
 ·have := hn v hv
  rw [nodeB_def, Bool.and_eq_true] at this
  have := range_all.1 this.2 i hi
  rw [portB_def] at this
  simp only [Bool.and_eq_true, beq_iff_eq] at this
  obtain ⟨k1, k2, k3, k4⟩ := this
  have k1 := inR_iff.1 k1
  have k2 := inR_iff.1 k2
  refine ⟨(fstD (E.getD v default) i).toNat, (sndD (E.getD v default) i).toNat, by omega, by omega, by omega, by omega, k3, k4⟩
theorem col_same (E : List (List (Int × Int))) (ids ins l : List Int) (h : isNet E ids ins = true) :
  (edL E E.length).any (fun x => decide (l.getD x.1.toNat default = l.getD x.2.2.1.toNat default)) = (firstIx E.length fun u => (firstIx (E.length - u) (samB E l u)).isSome).isSome := by
 obtain ⟨_, _, _, hp⟩ := net_port h
 rw [Bool.eq_iff_iff, List.any_eq_true, firstIx_isSome]
 have mem_map : ∀ (u : Nat) (x : Int), x ∈ (E.getD u default).map (·.1) ↔ ∃ i, i < (E.getD u default).length ∧ fstD (E.getD u default) i = x := by
  intro u x
  rw [List.mem_map]
  constructor
  ·rintro ⟨y, hy, rfl⟩
   obtain ⟨i, hi, rfl⟩ := List.getElem_of_mem hy
   exact ⟨i, hi, by unfold fstD; rw [getD_get _ _ hi]⟩
  ·rintro ⟨i, hi, rfl⟩
   exact ⟨_, List.getElem_mem hi, by unfold fstD; rw [getD_get _ _ hi]⟩
 constructor
 ·rintro ⟨x, hx, hs⟩
  obtain ⟨v, i, hv, hi, hc, rfl⟩ := (edL_mem E x E.length).1 hx
  obtain ⟨w, p, e1, e2, hw, hpl, _, _⟩ := hp v i hv hi
  simp only [decide_eq_true_eq, Int.toNat_natCast, e1] at hs
  unfold condE at hc
  rw [e1, e2] at hc
  simp only [Bool.or_eq_true, Bool.and_eq_true, decide_eq_true_eq] at hc
  refine ⟨v, hv, firstIx_isSome.2 ⟨w - v, by omega, ?_⟩⟩
  unfold samB
  rw [show v + (w - v) = w by omega, Bool.and_eq_true, decide_eq_true_eq, List.contains_iff_mem, mem_map]
  exact ⟨⟨i, hi, e1⟩, hs⟩
 ·rintro ⟨u, hu, hs⟩
  obtain ⟨j, hj, hs⟩ := firstIx_isSome.1 hs
  unfold samB at hs
  rw [Bool.and_eq_true, decide_eq_true_eq, List.contains_iff_mem, mem_map] at hs
  obtain ⟨⟨i, hi, e1⟩, hs⟩ := hs
  obtain ⟨w, p, e1', e2, hw, hpl, b1, b2⟩ := hp u i hu hi
  have hwu : w = u + j := by omega
  subst hwu
  have fin : ∀ i', i' < (E.getD u default).length → condE E u i' = true → fstD (E.getD u default) i' = ((u + j : Nat) : Int) → ∃ x, x ∈ edL E E.length ∧ decide (l.getD x.1.toNat default = l.getD x.2.2.1.toNat default) = true := by
   intro i' hi' hc hf
   refine ⟨_, (edL_mem E _ E.length).2 ⟨u, i', hu, hi', hc, rfl⟩, ?_⟩
   simp only [decide_eq_true_eq, Int.toNat_natCast, hf]
   exact hs
  by_cases h0 : j = 0
  ·subst h0
   rw [Nat.add_zero] at *
   by_cases hip : i ≤ p
   ·exact fin i hi (by unfold condE; rw [e1', e2]; simp; omega) e1
   ·exact fin p hpl (by unfold condE; rw [b1, b2]; simp; omega) b1
  ·exact fin i hi (by unfold condE; rw [e1']; simp; omega) e1

/-! ### Names -/

theorem pair_eq (l : List Int) (hl : l.length ≤ 1000) : ∃ a b, s_imPair l = some (a, b, decide (¬ l.Nodup)) := by
 have inner : ∀ u : Nat, u < l.length → s_imPair_l0 l (u : Int) (((u + 1 : Nat) : Int)) = some (match firstIx (l.length - (u + 1)) (fun i => decide (l.getD u default = l.getD (u + 1 + i) default)) with | some i => .inl (((u + 1 + i : Nat) : Int)) | none => .inr ()) := by
  intro u hu
  have key := itO_find (fun v => s_imPair_l0_S l (u : Int) v) (fun i => ((u + 1 + i : Nat) : Int)) (l.length - (u + 1)) (fun i => decide (l.getD u default = l.getD (u + 1 + i) default)) (fun i => .inl (((u + 1 + i : Nat) : Int))) (.inr ()) ?_ ?_
  ·unfold s_imPair_l0
   rw [Nat.add_zero] at key
   exact key
  ·intro i hi
   simp only [s_imPair_l0_S, Int.toNat_natCast]
   rw [if_pos (lt_nat (by omega)), ckT (by omega), ckT (by omega), wrS (u + 1 + i) (by omega)]
   by_cases e : l.getD u default = l.getD (u + 1 + i) default
   ·rw [if_pos e, decide_eq_true e]; rfl
   ·rw [if_neg e, decide_eq_false e]; rfl
  ·simp only [s_imPair_l0_S]
   rw [if_neg (by omega)]
 have key := itO_find (fun v => s_imPair_l1_S l v) (fun i => (i : Int)) l.length (fun u => (firstIx (l.length - (u + 1)) (fun i => decide (l.getD u default = l.getD (u + 1 + i) default))).isSome) (fun u => .inl ((u : Int), match firstIx (l.length - (u + 1)) (fun i => decide (l.getD u default = l.getD (u + 1 + i) default)) with | some i => ((u + 1 + i : Nat) : Int) | none => 0)) (.inr ()) ?_ ?_
 ·have hq : (firstIx l.length fun u => (firstIx (l.length - (u + 1)) (fun i => decide (l.getD u default = l.getD (u + 1 + i) default))).isSome).isSome = decide (¬ l.Nodup) := by
   rw [Bool.eq_iff_iff, firstIx_isSome, decide_eq_true_eq, List.nodup_iff_pairwise_ne, List.pairwise_iff_getElem]
   constructor
   ·rintro ⟨u, hu, hs⟩ hn
    obtain ⟨i, hi, hs⟩ := firstIx_isSome.1 hs
    rw [decide_eq_true_eq, getD_get _ _ hu, getD_get _ _ (by omega)] at hs
    exact hn u (u + 1 + i) hu (by omega) (by omega) hs
   ·intro hn
    refine Classical.byContradiction fun hc => hn fun i j hi hj hij he => hc ⟨i, hi, firstIx_isSome.2 ⟨j - (i + 1), by omega, ?_⟩⟩
    rw [decide_eq_true_eq, show i + 1 + (j - (i + 1)) = j by omega, getD_get _ _ hi, getD_get _ _ hj]
    exact he
  rw [← hq]
  unfold s_imPair s_imPair_l1
  rw [Int.natCast_zero] at key
  rw [key]
  cases firstIx l.length fun u => (firstIx (l.length - (u + 1)) (fun i => decide (l.getD u default = l.getD (u + 1 + i) default))).isSome with
  | none => exact ⟨0, 0, rfl⟩
  | some u => exact ⟨_, _, rfl⟩
 ·intro u hu
  simp only [s_imPair_l1_S]
  rw [if_pos (lt_nat hu), wrS u (by omega), inner u hu, Option.bind_some]
  cases firstIx (l.length - (u + 1)) (fun i => decide (l.getD u default = l.getD (u + 1 + i) default)) <;> rfl
 ·simp only [s_imPair_l1_S]
  rw [if_neg (not_lt_nat _)]
theorem compact_in (s : List Int) (k : Nat) (hk : 1 ≤ k ∧ k < s.length) (hs : s.length ≤ 1000) : ∃ (a : Nat) (t : List Int), g_slices_Compact_Sint_int_l0 s (k : Int) ((k : Int), 1, s) = some ((a : Int), t) ∧ t.length = s.length ∧ a < s.length := by
 unfold g_slices_Compact_Sint_int_l0
 have key := itO_inv (fun v => g_slices_Compact_Sint_int_l0_S s (k : Int) v.1 v.2.1 v.2.2)
  (fun n (v : Int × Int × List Int) => ∃ a b : Nat, v.1 = (a : Int) ∧ v.2.1 = (b : Int) ∧ n = s.length - k - b ∧ 1 ≤ b ∧ b ≤ s.length - k ∧ a < k + b ∧ v.2.2.length = s.length)
  (fun r : Int × List Int => ∃ a : Nat, r.1 = (a : Int) ∧ a < s.length ∧ r.2.length = s.length) ?_ (s.length - k - 1) ((k : Int), 1, s) ⟨k, 1, rfl, rfl, rfl, by omega, by omega, by omega, rfl⟩
 ·obtain ⟨⟨a', t⟩, h1, a, h2, h3, h4⟩ := key
  simp only at h2 h4
  subst h2
  exact ⟨a, t, h1, h4, h3⟩
 ·rintro n ⟨k1, k2, t⟩ ⟨a, b, h1, h2, h3, h4, h5, h6, h7⟩
  simp only at h1 h2 h7
  subst h1 h2
  by_cases hb : b < s.length - k
  ·left
   simp only [g_slices_Compact_Sint_int_l0_S, Int.toNat_natCast]
   rw [if_pos (by omega), ckT (by omega), ckT (by omega), ckT (by omega), wr64 _ (by omega), ckT (by omega), ckT (by omega), wrS b (by omega)]
   split
   ·exact ⟨_, s.length - k - (b + 1), rfl, by omega, a, b + 1, rfl, rfl, rfl, by omega, by omega, by omega, h7⟩
   ·rw [ckT (by omega), wrS a (by omega)]
    exact ⟨_, s.length - k - (b + 1), rfl, by omega, a + 1, b + 1, rfl, rfl, rfl, by omega, by omega, by omega, by simp only [List.length_set]; exact h7⟩
  ·right
   refine ⟨((a : Int), t), ?_, a, rfl, by omega, h7⟩
   simp only [g_slices_Compact_Sint_int_l0_S, Int.toNat_natCast]
   rw [if_neg (by omega)]
theorem compact_eq (s : List Int) (hs : s.length ≤ 1000) : ∃ r, g_slices_Compact_Sint_int s = some r ∧ (r.length = s.length ↔ ∀ i, 1 ≤ i → i < s.length → s.getD i default ≠ s.getD (i - 1) default) := by
 unfold g_slices_Compact_Sint_int
 by_cases h2 : (s.length : Int) < 2
 ·rw [if_pos h2]
  exact ⟨s, rfl, fun _ i h1 hi => by omega, fun _ => rfl⟩
 ·rw [if_neg h2]
  unfold g_slices_Compact_Sint_int_l1
  have key := itO_inv (fun v => g_slices_Compact_Sint_int_l1_S s v) (fun n (v : Int) => ∃ k : Nat, v = (k : Int) ∧ n = s.length - k ∧ 1 ≤ k ∧ k ≤ s.length ∧ ∀ i, 1 ≤ i → i < k → s.getD i default ≠ s.getD (i - 1) default)
   (fun r : List Int ⊕ Unit => match r with | .inl q => q.length < s.length ∧ ∃ i, 1 ≤ i ∧ i < s.length ∧ s.getD i default = s.getD (i - 1) default | .inr _ => ∀ i, 1 ≤ i → i < s.length → s.getD i default ≠ s.getD (i - 1) default) ?_ (s.length - 1) (1 : Int) ⟨1, rfl, rfl, by omega, by omega, fun i h1 h3 => by omega⟩
  ·obtain ⟨r, h1, h3⟩ := key
   rw [h1, Option.bind_some]
   cases r with
   | inl q =>
    obtain ⟨h4, i, h5, h6, h7⟩ := h3
    exact ⟨q, rfl, fun h => by omega, fun h => absurd h7 (h i h5 h6)⟩
   | inr _ => exact ⟨s, rfl, fun _ => h3, fun _ => rfl⟩
  ·rintro n v ⟨k, rfl, hn, h1, hk, hne⟩
   by_cases hks : k < s.length
   ·simp only [g_slices_Compact_Sint_int_l1_S, Int.toNat_natCast]
    rw [if_pos (lt_nat hks), ckT (by omega), wr64 _ (by omega), ckT (by omega), show ((k : Int) - 1).toNat = k - 1 by omega]
    by_cases e : s.getD k default = s.getD (k - 1) default
    ·right
     obtain ⟨a, t, c1, c2, c3⟩ := compact_in s k ⟨h1, hks⟩ hs
     have hsp : (spl t a (List.replicate (t.length - a) 0)).length = t.length := by
      rw [spl_eq _ _ _ (by rw [List.length_replicate]; omega)]
      simp; omega
     rw [if_pos e, ckT (by omega), ckT (by omega), c1, Option.bind_some]
     simp only [Int.toNat_natCast]
     rw [ckT (by omega), ckT (by omega), ckT (by omega), ckT (by omega)]
     exact ⟨_, rfl, by simp only [List.length_take, hsp]; omega, k, h1, hks, e⟩
    ·left
     rw [if_neg e, wrS k (by omega)]
     refine ⟨_, s.length - (k + 1), rfl, by omega, k + 1, rfl, rfl, by omega, by omega, fun i hi1 hi2 => ?_⟩
     by_cases hik : i = k
     ·subst hik; exact e
     ·exact hne i hi1 (by omega)
   ·right
    have hke : k = s.length := by omega
    subst hke
    refine ⟨.inr (), ?_, hne⟩
    simp only [g_slices_Compact_Sint_int_l1_S]
    rw [if_neg (not_lt_nat _)]
theorem adj_nodup {l : List Int} (h : l.Pairwise (fun a b => a ≤ b)) : (∀ i, 1 ≤ i → i < l.length → l.getD i default ≠ l.getD (i - 1) default) ↔ l.Nodup := by
 rw [List.pairwise_iff_getElem] at h
 rw [List.nodup_iff_pairwise_ne, List.pairwise_iff_getElem]
 constructor
 ·intro hn
  have lt : ∀ (d i : Nat) (hj : i + d + 1 < l.length), l[i]'(by omega) < l[i + d + 1] := by
   intro d
   induction d with
   | zero =>
    intro i hj
    have h1 := h i (i + 1) (by omega) hj (by omega)
    have h2 := hn (i + 1) (by omega) hj
    rw [getD_get _ _ hj, getD_get _ _ (by omega)] at h2
    simp only [Nat.add_sub_cancel] at h2
    have h3 : l[i + 1] ≠ l[i] := h2
    have : l[i + 0 + 1] = l[i + 1] := rfl
    omega
   | succ d ih =>
    intro i hj
    have h1 := ih i (by omega)
    have h2 := h (i + d + 1) (i + (d + 1) + 1) (by omega) hj (by omega)
    omega
  intro i j hi hj hij he
  have := lt (j - i - 1) i (by omega)
  simp only [show i + (j - i - 1) + 1 = j by omega] at this
  omega
 ·intro hn i h1 hi he
  rw [getD_get _ _ hi, getD_get _ _ (by omega)] at he
  exact hn (i - 1) i (by omega) hi (by omega) he.symm

/-! ### A leader -/

theorem sum_loop (l : List Int) (hl : l.length ≤ 1000) (hx : ∀ x ∈ l, 0 ≤ x ∧ x ≤ 99) : s_imMeets_l0 l (0, 0) = some l.sum := by
 have hs : ∀ i, i ≤ l.length → 0 ≤ (l.take i).sum ∧ (l.take i).sum ≤ 99 * (i : Int) := by
  intro i
  induction i with
  | zero => intro _; simp
  | succ i ih =>
   intro hi
   have h1 := ih (by omega)
   have h2 := hx _ (List.getElem_mem (show i < l.length by omega))
   rw [List.take_add_one, List.getElem?_eq_getElem (by omega), List.sum_append]
   simp only [Option.toList_some, List.sum_cons, List.sum_nil]
   omega
 unfold s_imMeets_l0
 have key := itO_for (fun v => s_imMeets_l0_S l v.1 v.2) (fun i => ((l.take i).sum, (i : Int))) l.length l.sum ?_ ?_
 ·have e : ((0 : Nat) : Int) = 0 := rfl
  simp only [e, List.take_zero, List.sum_nil] at key
  exact key
 ·intro i hi
  have h1 := hs i (by omega)
  have h2 := hx _ (List.getElem_mem hi)
  simp only [s_imMeets_l0_S, Int.toNat_natCast]
  rw [if_pos (lt_nat hi), ckT (by omega), getD_get _ _ hi, wr64 _ (by omega), wrS i (by omega), List.take_add_one, List.getElem?_eq_getElem hi, List.sum_append]
  simp
 ·simp only [s_imMeets_l0_S]
  rw [if_neg (not_lt_nat _), List.take_length]
theorem perm_sum {l m : List Int} (h : l.Perm m) : l.sum = m.sum := by
 induction h with
 | nil => rfl
 | cons x _ ih => simp only [List.sum_cons, ih]
 | swap x y l => simp only [List.sum_cons]; omega
 | trans _ _ h1 h2 => exact h1.trans h2
theorem sum_zero {l : List Int} (h : ∀ x ∈ l, 0 ≤ x) : 0 ≤ l.sum ∧ (l.sum = 0 ↔ ∀ x ∈ l, x = 0) := by
 induction l with
 | nil => simp
 | cons a l ih =>
  obtain ⟨h1, h2⟩ := ih (fun x hx => h x (by simp [hx]))
  have ha := h a (by simp)
  rw [List.sum_cons]
  refine ⟨by omega, fun hs => ?_, fun hs => ?_⟩
  ·intro x hx
   rcases List.mem_cons.1 hx with rfl | hx
   ·omega
   ·exact h2.1 (by omega) x hx
  ·have := h2.2 (fun x hx => hs x (by simp [hx]))
   have := hs a (by simp)
   omega
/-- What the program looks at of the sorted numbers. -/
theorem lead_same (l : List Int) (hl : 1 ≤ l.length) (hx : ∀ x ∈ l, 0 ≤ x ∧ x ≤ 99) (s : List Int) (hp : s.Perm l) (hs : s.Pairwise (fun a b => a ≤ b)) :
  (allIn l 0 1 && decide (l.sum = 1)) = (decide (s.getD (s.length - 1) default = 1) && (decide (s.length = 1) || decide (s.getD (s.length - 2) default = 0))) := by
 have hlen := hp.length_eq
 have hxs : ∀ x ∈ s, 0 ≤ x ∧ x ≤ 99 := fun x h => hx x (hp.mem_iff.1 h)
 have hall : allIn l 0 1 = allIn s 0 1 := by
  unfold allIn
  rw [Bool.eq_iff_iff, List.all_eq_true, List.all_eq_true]
  exact ⟨fun h x hx => h x (hp.mem_iff.1 hx), fun h x hx => h x (hp.mem_iff.2 hx)⟩
 have hsum : l.sum = s.sum := perm_sum hp.symm
 rw [hall, hsum]
 obtain ⟨q, m, rfl⟩ : ∃ q m, s = q ++ [m] := ⟨s.dropLast, s.getLast (by intro h; rw [h] at hlen; simp at hlen; omega), (List.dropLast_concat_getLast _).symm⟩
 have hm : (q ++ [m]).getD ((q ++ [m]).length - 1) default = m := by
  rw [List.length_append, List.length_singleton, Nat.add_sub_cancel, List.getD_eq_getElem?_getD, List.getElem?_append_right (Nat.le_refl _), Nat.sub_self]; rfl
 rw [hm, List.sum_append, List.sum_cons, List.sum_nil, Int.add_zero]
 have hq : ∀ x ∈ q, 0 ≤ x := fun x h => (hxs x (by simp [h])).1
 have hqm : ∀ x ∈ q, x ≤ m := fun x h => (List.pairwise_append.1 hs).2.2 x h m (by simp)
 have h0m := (hxs m (by simp)).1
 obtain ⟨z1, z2⟩ := sum_zero hq
 have hlast : q.length = 0 ∨ ∃ y, y ∈ q ∧ (q ++ [m]).getD ((q ++ [m]).length - 2) default = y ∧ ∀ x ∈ q, x ≤ y := by
  by_cases h0 : q.length = 0
  ·exact .inl h0
  ·right
   have hi : q.length - 1 < q.length := by omega
   refine ⟨q[q.length - 1], List.getElem_mem hi, ?_, fun x hx => ?_⟩
   ·rw [List.length_append, List.length_singleton, show q.length + 1 - 2 = q.length - 1 by omega, List.getD_eq_getElem?_getD, List.getElem?_append_left hi, List.getElem?_eq_getElem hi]; rfl
   ·obtain ⟨i, hil, rfl⟩ := List.getElem_of_mem hx
    have hpq := (List.pairwise_append.1 hs).1
    rw [List.pairwise_iff_getElem] at hpq
    by_cases e : i = q.length - 1
    ·subst e; exact Int.le_refl _
    ·exact hpq i (q.length - 1) hil hi (by omega)
 rw [Bool.eq_iff_iff]
 simp only [Bool.and_eq_true, Bool.or_eq_true, decide_eq_true_eq, List.length_append, List.length_singleton]
 constructor
 ·rintro ⟨ha, hs1⟩
  have ham : m ≤ 1 := by
   unfold allIn at ha
   rw [List.all_eq_true] at ha
   exact (inR_iff.1 (ha m (by simp))).2
  have hm1 : m = 1 := by
   rcases Int.lt_or_le m 1 with h | h
   ·have hm0 : m = 0 := by omega
    have := z2.2 (fun x hx => by have := hq x hx; have := hqm x hx; omega)
    omega
   ·omega
  refine ⟨hm1, ?_⟩
  have hz := z2.1 (by omega)
  rcases hlast with h | ⟨y, hy, he, _⟩
  ·left; omega
  ·right
   rw [List.length_append, List.length_singleton] at he
   rw [he]; exact hz y hy
 ·rintro ⟨hm1, hr⟩
  have hz : ∀ x ∈ q, x = 0 := by
   intro x hx
   rcases hr with h | h
   ·have : q.length = 0 := by omega
    rw [List.eq_nil_of_length_eq_zero this] at hx; cases hx
   ·rcases hlast with h' | ⟨y, hy, he, hle⟩
    ·rw [List.eq_nil_of_length_eq_zero h'] at hx; cases hx
    ·rw [List.length_append, List.length_singleton] at he
     have := hle x hx
     have := hq x hx
     omega
  refine ⟨?_, by have := z2.2 hz; omega⟩
  unfold allIn
  rw [List.all_eq_true]
  intro x hx
  refine inR_iff.2 ?_
  rcases List.mem_append.1 hx with h | h
  ·have := hz x h; omega
  ·rw [List.mem_singleton] at h; omega

/-! ### All tasks -/

theorem meets_both (E : List (List (Int × Int))) (ids ins : List Int) (t : Int) (l : List Int) (h : isNet E ids ins = true) (hl : l.length = E.length) (hx : ∀ x ∈ l, 0 ≤ x ∧ x ≤ 99) : ∃ b, s_imMeets E ids ins t l = some b ∧ i_meets E ids ins t l = some b := by
 obtain ⟨hE, hE1, hd, _⟩ := net_port h
 have hM : l.length < 1099511627776 := by omega
 have hsl := sortI_len l
 unfold s_imMeets i_meets g_slices_Values_Sint_int
 by_cases t1 : t = 1
 ·simp only [if_pos t1, Option.bind_some]
  rw [sum_loop l (by omega) hx, Option.bind_some, ckT hM, ckT hM, sortM_eq]
  have hlead := lead_same l (by omega) hx (sortI l) (sortI_perm l) (sortI_pair l)
  refine ⟨allIn l 0 1 && decide (l.sum = 1), ?_, ?_⟩
  ·cases allIn l 0 1 <;> rfl
  ·rw [hlead, wr64 _ (by omega), ckT (by omega), show (((sortI l).length : Int) - 1).toNat = (sortI l).length - 1 by omega]
   by_cases c1 : (sortI l).getD ((sortI l).length - 1) default = 1
   ·rw [if_pos c1, decide_eq_true c1, Bool.true_and]
    have hge : 0 ≤ (sortI l).getD 0 default := by
     rw [getD_get _ _ (by omega)]
     exact (hx _ ((sortI_perm l).mem_iff.1 (List.getElem_mem _))).1
    by_cases c2 : (sortI l).length = 1
    ·rw [if_pos (by omega), ckT (by omega), decide_eq_true c2, decide_eq_true hge]; rfl
    ·rw [if_neg (by omega), wr64 _ (by omega), ckT (by omega), decide_eq_false c2, Bool.false_or, show ((((sortI l).length : Int) - 1) - 1).toNat = (sortI l).length - 2 by omega]
     by_cases c3 : (sortI l).getD ((sortI l).length - 2) default = 0
     ·rw [if_pos c3, ckT (by omega), decide_eq_true c3, decide_eq_true hge]
     ·rw [if_neg c3, decide_eq_false c3]
   ·rw [if_neg c1, decide_eq_false c1]; rfl
 ·simp only [if_neg t1]
  by_cases t2 : t = 2
  ·simp only [if_pos t2]
   obtain ⟨a, b, e⟩ := edge_eq E ids ins l hE hd hl
   have hlen := edL_len E hd E.length (Nat.le_refl _)
   rw [e, edges_eq E ids ins hE hd, Option.bind_some, Option.bind_some, con_eq (edL E E.length) _ (fun x => decide (l.getD x.1.toNat default = l.getD x.2.2.1.toNat default)) (by omega) ?_, Option.bind_some, col_same E ids ins l h]
   ·exact ⟨_, rfl, rfl⟩
   ·intro x hxm
    obtain ⟨v, i, hv, hi, _, rfl⟩ := (edL_mem E x E.length).1 hxm
    obtain ⟨w, p, e1, e2, hw, hpl, _, _⟩ := (net_port h).2.2.2 v i hv hi
    unfold i_meets_1
    simp only [e1, Int.toNat_natCast]
    rw [ckT (by omega), ckT (by omega)]
  ·simp only [if_neg t2, Option.bind_some]
   obtain ⟨a, b, e⟩ := pair_eq l (by omega)
   obtain ⟨r, c1, c2⟩ := compact_eq (sortI l) (by omega)
   rw [e, ckT hM, sortM_eq, c1, Option.bind_some, Option.bind_some]
   refine ⟨_, rfl, ?_⟩
   rw [adj_nodup (sortI_pair l), (sortI_perm l).nodup_iff] at c2
   congr 1
   by_cases hn : l.Nodup
   ·have e1 : decide (¬ l.Nodup) = false := decide_eq_false (fun hc => hc hn)
    have e2 : decide ((r.length : Int) = (l.length : Int)) = true := decide_eq_true (by have := c2.2 hn; omega)
    rw [e1, e2]; rfl
   ·have e1 : decide (¬ l.Nodup) = true := decide_eq_true hn
    have e2 : decide ((r.length : Int) = (l.length : Int)) = false := decide_eq_false (fun hc => hn (c2.1 (by omega)))
    rw [e1, e2]; rfl
theorem task_both (E : List (List (Int × Int))) (ids ins : List Int) (t : Int) (l : List Int) (hE : ShortE E) (h1 : ids.length < 1099511627776) (h2 : ins.length < 1099511627776) (h3 : l.length < 1099511627776) : ∃ x y, s_MeetsTask E ids ins t l = some (x, y) ∧ i_MeetsTask E ids ins t l = some (x, y) := by
 unfold s_MeetsTask i_MeetsTask s_taOuts i_outputsOk s_imTask i_isTask
 simp only [ckT hE, ckT h1, ckT h2, ckT h3]
 by_cases h : isNet E ids ins = true
 ·simp only [if_pos h]
  by_cases hl : (l.length : Int) = (E.length : Int)
  ·simp only [if_pos hl, Option.bind_some]
   cases ha : allIn l 0 99 with
   | false => cases inR t 1 3 <;> exact ⟨false, false, rfl, rfl⟩
   | true =>
    have hx : ∀ x ∈ l, 0 ≤ x ∧ x ≤ 99 := fun x hx => by
     unfold allIn at ha
     rw [List.all_eq_true] at ha
     exact inR_iff.1 (ha x hx)
    obtain ⟨b, e1, e2⟩ := meets_both E ids ins t l h (by omega) hx
    cases inR t 1 3 with
    | false => exact ⟨false, false, rfl, rfl⟩
    | true => simp only [if_true, e1, e2, Option.bind_some]; exact ⟨b, true, rfl, rfl⟩
  ·simp only [if_neg hl, Option.bind_some]
   cases inR t 1 3 <;> exact ⟨false, false, rfl, rfl⟩
 ·simp only [if_neg h]
  exact ⟨false, false, rfl, rfl⟩

end Go.Proofs.Ytjkgcfdcfjkkbaa
