/- Whether a covering refutes a size: program and reference agree. Conditions: none. -/
import Derived.Test.YtipfckompmhljaaL6
import Derived.Test.YtipfckompmhljaaDstA
import Derived.Test.YtipfckompmhljaaDst
import Derived.Test.YtipfckompmhljaaPrt
import Derived.Test.YtipfckompmhljaaCon
namespace Go.Proofs.Ytipfckompmhljaa
open Go Dv
set_option linter.unusedSimpArgs false
set_option linter.unusedVariables false
set_option maxRecDepth 100000


/-! ### Port maps -/
def pmI (A B : List (List (Int × Int))) (m : List Int) (v i : Nat) : Bool := (fstD (B.getD (m.getD v default).toNat default) i == m.getD (fstD (A.getD v default) i).toNat default) && (sndD (B.getD (m.getD v default).toNat default) i == sndD (A.getD v default) i)
def pmV (A B : List (List (Int × Int))) (IA IB m : List Int) (v : Nat) : Bool :=
 decide (((A.getD v default).length : Int) = ((B.getD (m.getD v default).toNat default).length : Int)) && (decide (IA.getD v default = IB.getD (m.getD v default).toNat default) && (List.range (A.getD v default).length).all (pmI A B m v))
/-- Is a list a port map? -/
def pmB (A B : List (List (Int × Int))) (IA IB m : List Int) : Bool :=
 decide ((m.length : Int) = (A.length : Int)) && (allIn m 0 ((B.length : Int) - 1) && (List.range A.length).all (pmV A B IA IB m))
theorem net_ins {E : List (List (Int × Int))} {ids ins : List Int} (h : isNet E ids ins = true) : ins.length = E.length := by
 unfold isNet at h
 simp only [Bool.and_eq_true] at h
 obtain ⟨_, _, h3, _⟩ := h
 rw [decide_eq_true_eq] at h3
 omega
theorem pm_both {A B : List (List (Int × Int))} {ia IA ib IB : List Int} (hA : isNet A ia IA = true) (hB : isNet B ib IB = true) (m : List Int) (hm : m.length < 1099511627776) :
  i_isPortMap A ia IA B ib IB m = some (pmB A B IA IB m) ∧ s_coMap A ia IA B ib IB m = some (pmB A B IA IB m) := by
 obtain ⟨a1, a2, a3, a4⟩ := port_net hA
 obtain ⟨b1, b2, b3, b4⟩ := port_net hB
 have ha := net_ins hA
 have hb := net_ins hB
 unfold i_isPortMap s_coMap pmB
 simp only [wr64 ((B.length : Int) - 1) (by omega), ckT hm]
 by_cases q1 : (m.length : Int) = (A.length : Int)
 ·rw [if_pos q1, if_pos q1, decide_eq_true q1, Bool.true_and]
  by_cases q2 : allIn m 0 ((B.length : Int) - 1) = true
  ·rw [if_pos q2, if_pos q2, q2, Bool.true_and]
   have hr : ∀ v, v < A.length → 0 ≤ m.getD v default ∧ (m.getD v default).toNat < B.length := by
    intro v hv
    have hv' : v < m.length := by omega
    unfold allIn at q2
    rw [List.all_eq_true] at q2
    have := inR_iff.1 (q2 _ (List.getElem_mem hv'))
    rw [getD_get _ _ hv']
    omega
   have hn : ∀ v i, v < A.length → i < (A.getD v default).length → 0 ≤ fstD (A.getD v default) i ∧ (fstD (A.getD v default) i).toNat < m.length := by
    intro v i hv hi
    obtain ⟨w, p, e1, _, hw, _⟩ := a4 v i hv hi
    omega
   have innerI : ∀ v, v < A.length → (A.getD v default).length = (B.getD (m.getD v default).toNat default).length → i_isPortMap_l0 A ia IA B ib IB m (v : Int) 0 = some (if (List.range (A.getD v default).length).all (pmI A B m v) = true then .inr () else .inl ()) := by
    intro v hv hl
    have h6 := a3 v hv
    unfold i_isPortMap_l0
    refine itO_all (fun x => i_isPortMap_l0_S A ia IA B ib IB m (v : Int) x) (fun i => (i : Int)) (A.getD v default).length (pmI A B m v) (.inl ()) (.inr ()) ?_ ?_
    ·intro i hi
     have h1 := hn v i hv hi
     simp only [i_isPortMap_l0_S, Int.toNat_natCast]
     rw [if_pos (lt_nat hi), ckT ⟨by omega, hi⟩, ckT ⟨by omega, by omega⟩, ckT h1, wrS i (by omega)]
     rfl
    ·simp only [i_isPortMap_l0_S, Int.toNat_natCast]
     rw [if_neg (not_lt_nat _)]
   have innerS : ∀ v, v < A.length → (A.getD v default).length = (B.getD (m.getD v default).toNat default).length → s_coMap_l0 A ia IA B ib IB m (v : Int) 0 = some (if (List.range (A.getD v default).length).all (pmI A B m v) = true then .inr () else .inl ()) := by
    intro v hv hl
    have h6 := a3 v hv
    have hrv := hr v hv
    unfold s_coMap_l0
    refine itO_all (fun x => s_coMap_l0_S A ia IA B ib IB m (v : Int) x) (fun i => (i : Int)) (A.getD v default).length (pmI A B m v) (.inl ()) (.inr ()) ?_ ?_
    ·intro i hi
     have h1 := hn v i hv hi
     simp only [s_coMap_l0_S, Int.toNat_natCast]
     rw [if_pos (lt_nat hi), ckT ⟨by omega, hi⟩, ckT ⟨by omega, by omega⟩, ckT hrv, ckT ⟨by omega, by omega⟩, ckT h1, wrS i (by omega)]
     rfl
    ·simp only [s_coMap_l0_S, Int.toNat_natCast]
     rw [if_neg (not_lt_nat _)]
   have outI : i_isPortMap_l1 A ia IA B ib IB m 0 = some (if (List.range A.length).all (pmV A B IA IB m) = true then .inr () else .inl ()) := by
    unfold i_isPortMap_l1
    refine itO_all (fun x => i_isPortMap_l1_S A ia IA B ib IB m x) (fun i => (i : Int)) A.length (pmV A B IA IB m) (.inl ()) (.inr ()) ?_ ?_
    ·intro v hv
     have hrv := hr v hv
     simp only [i_isPortMap_l1_S, Int.toNat_natCast]
     rw [if_pos (lt_nat hv), ckT ⟨by omega, hv⟩, ckT ⟨by omega, by omega⟩, ckT hrv, wrS v (by omega)]
     unfold pmV
     by_cases q3 : ((A.getD v default).length : Int) = ((B.getD (m.getD v default).toNat default).length : Int)
     ·rw [if_pos q3, decide_eq_true q3, Bool.true_and, ckT ⟨by omega, by omega⟩, ckT ⟨by omega, by omega⟩]
      by_cases q4 : IA.getD v default = IB.getD (m.getD v default).toNat default
      ·rw [if_pos q4, decide_eq_true q4, Bool.true_and, innerI v hv (by omega), Option.bind_some]
       cases (List.range (A.getD v default).length).all (pmI A B m v) <;> rfl
      ·rw [if_neg q4, decide_eq_false q4]; rfl
     ·rw [if_neg q3, decide_eq_false q3]; rfl
    ·simp only [i_isPortMap_l1_S]
     rw [if_neg (not_lt_nat _)]
   have outS : s_coMap_l1 A ia IA B ib IB m 0 = some (if (List.range A.length).all (pmV A B IA IB m) = true then .inr () else .inl ()) := by
    unfold s_coMap_l1
    refine itO_all (fun x => s_coMap_l1_S A ia IA B ib IB m x) (fun i => (i : Int)) A.length (pmV A B IA IB m) (.inl ()) (.inr ()) ?_ ?_
    ·intro v hv
     have hrv := hr v hv
     simp only [s_coMap_l1_S, Int.toNat_natCast]
     rw [if_pos (lt_nat hv), ckT ⟨by omega, hv⟩, ckT ⟨by omega, by omega⟩, ckT hrv, wrS v (by omega)]
     unfold pmV
     by_cases q3 : ((A.getD v default).length : Int) = ((B.getD (m.getD v default).toNat default).length : Int)
     ·rw [if_pos q3, decide_eq_true q3, Bool.true_and, ckT ⟨by omega, by omega⟩, ckT ⟨by omega, by omega⟩]
      by_cases q4 : IA.getD v default = IB.getD (m.getD v default).toNat default
      ·rw [if_pos q4, decide_eq_true q4, Bool.true_and, innerS v hv (by omega), Option.bind_some]
       cases (List.range (A.getD v default).length).all (pmI A B m v) <;> rfl
      ·rw [if_neg q4, decide_eq_false q4]; rfl
     ·rw [if_neg q3, decide_eq_false q3]; rfl
    ·simp only [s_coMap_l1_S]
     rw [if_neg (not_lt_nat _)]
   rw [outI, outS]
   simp only [Option.bind_some]
   cases (List.range A.length).all (pmV A B IA IB m) <;> exact ⟨rfl, rfl⟩
  ·rw [if_neg q2, if_neg q2, Bool.eq_false_iff.2 q2]
   exact ⟨rfl, rfl⟩
 ·rw [if_neg q1, if_neg q1, decide_eq_false q1]
  exact ⟨rfl, rfl⟩

/-! ### Fibres -/
/-- Each number is laid into the list of its image. -/
def fibL (m : List Int) (k : Nat) : List (List Int) := ((List.range m.length).foldl (fun b j => b.set (m.getD j default).toNat (b.getD (m.getD j default).toNat default ++ [(j : Int)])) (List.replicate k []))
theorem fib_eq (m : List Int) (k : Nat) (hk : k ≤ 40) (hm : m.length ≤ 40) (hr : ∀ v, v < m.length → 0 ≤ m.getD v default ∧ (m.getD v default).toNat < k) : i_fibres_l0 m (List.replicate k [], 0) = some (fibL m k) ∧ (fibL m k).length = k := by
 have key := itO_fold (fun x => i_fibres_l0_S m x.1 x.2) (fun i (b : List (List Int)) => (b, (i : Int))) (fun i b => b.length = k ∧ ∀ x ∈ b, x.length ≤ i) (List.range m.length) (fun b j => b.set (m.getD j default).toNat (b.getD (m.getD j default).toNat default ++ [(j : Int)])) (fun b => b) ?_ ?_ (List.replicate k []) ⟨by simp, by intro x hx; rw [(List.mem_replicate.1 hx).2]; exact Nat.le_refl _⟩
 ·exact ⟨key.1, key.2.1⟩
 ·intro i b hi hb
  rw [List.length_range] at hi
  have hri := hr i hi
  obtain ⟨hb1, hb2⟩ := hb
  have hc : (m.getD i default).toNat < b.length := by omega
  have hx := hb2 _ (List.getElem_mem hc)
  simp only [List.getElem_range, i_fibres_l0_S, Int.toNat_natCast]
  refine ⟨?_, by simpa using hb1, fun x hx' => ?_⟩
  ·rw [if_pos (lt_nat hi), ckT ⟨by omega, hi⟩, ckT ⟨by omega, hc⟩, ckT (by rw [getD_get _ _ hc]; omega), wrS i (by omega)]
  ·rcases List.mem_or_eq_of_mem_set hx' with h | h
   ·have := hb2 x h; omega
   ·rw [h, List.length_append, List.length_singleton, getD_get _ _ hc]; omega
 ·intro b _
  simp only [List.length_range, i_fibres_l0_S]
  rw [if_neg (not_lt_nat _)]
theorem s_fib_same (m : List Int) (v : List (List Int) × Int) : s_coFibres_l0 m v = i_fibres_l0 m v := rfl
theorem anyF (l : List (List Int)) (f : List Int → Option Bool) (p : List Int → Bool) (h : l.length < 1099511627776) (hf : ∀ x ∈ l, f x = some (p x)) : g_slices_ContainsFunc_SSint_Sint l f = some (l.any p) := by
 have key := itO_find (fun v => g_slices_IndexFunc_SSint_Sint_l0_S l f v) (fun i => (i : Int)) l.length (fun i => p (l.getD i default)) (fun i => .inl (i : Int)) (.inr ()) ?_ ?_
 ·rw [Int.natCast_zero] at key
  unfold g_slices_ContainsFunc_SSint_Sint g_slices_IndexFunc_SSint_Sint g_slices_IndexFunc_SSint_Sint_l0
  rw [key]
  cases hq : firstIx l.length (fun i => p (l.getD i default)) with
  | none =>
   have : l.any p = false := by
    rw [Bool.eq_false_iff]
    intro hc
    obtain ⟨x, hx, hpx⟩ := List.any_eq_true.1 hc
    obtain ⟨i, hi, rfl⟩ := List.getElem_of_mem hx
    have : (firstIx l.length (fun i => p (l.getD i default))).isSome = true := firstIx_isSome.2 ⟨i, hi, by rw [getD_get _ _ hi]; exact hpx⟩
    rw [hq] at this; cases this
   rw [this]; rfl
  | some m =>
   obtain ⟨m1, m2⟩ := firstIx_lt hq
   have : l.any p = true := List.any_eq_true.2 ⟨_, List.getElem_mem m1, by rw [← getD_get _ _ m1]; exact m2⟩
   rw [this]
   simp only [Option.bind_some]
   rw [decide_eq_true (by omega)]
 ·intro i hi
  simp only [g_slices_IndexFunc_SSint_Sint_l0_S]
  rw [if_pos (lt_nat hi), ckT (ix_nat hi), Int.toNat_natCast, hf _ (by rw [getD_get _ _ hi]; exact List.getElem_mem hi), Option.bind_some, wrS i (by omega)]
 ·simp only [g_slices_IndexFunc_SSint_Sint_l0_S]
  rw [if_neg (not_lt_nat _)]
theorem cover_both {A B : List (List (Int × Int))} {IA ib IB m : List Int} (ha : A.length ≤ 40) (hb : B.length ≤ 40) (h : pmB A B IA IB m = true) : ∃ r, i_covers B ib IB m = some r ∧ s_coOnto B ib IB m = some r := by
 unfold pmB at h
 simp only [Bool.and_eq_true, decide_eq_true_eq] at h
 obtain ⟨h1, h2, _⟩ := h
 have hr : ∀ v, v < m.length → 0 ≤ m.getD v default ∧ (m.getD v default).toNat < B.length := by
  intro v hv
  unfold allIn at h2
  rw [List.all_eq_true] at h2
  have := inR_iff.1 (h2 _ (List.getElem_mem hv))
  rw [getD_get _ _ hv]
  omega
 obtain ⟨f1, f2⟩ := fib_eq m B.length hb (by omega) hr
 have e1 : i_fibres m (B.length : Int) = some (fibL m B.length) := by
  unfold i_fibres
  rw [ckT (by omega), Int.toNat_natCast, f1]; rfl
 have e2 : s_coFibres B ib IB m = some (fibL m B.length) := by
  unfold s_coFibres
  rw [ckT (by omega), s_fib_same, f1]; rfl
 refine ⟨(fibL m B.length).all fun x => !decide ((x.length : Int) = 0), ?_, ?_⟩
 ·unfold i_covers
  rw [e1, Option.bind_some]
  have := anyF (fibL m B.length) (fun a0 => i_covers_1 a0) (fun x => decide ((x.length : Int) = 0)) (by omega) (fun x _ => rfl)
  rw [this, Option.bind_some]
  refine congrArg some ?_
  exact List.not_any_eq_all_not
 ·unfold s_coOnto s_coOnto_l0
  rw [e2, Option.bind_some]
  have key := itO_all (fun x => s_coOnto_l0_S (fibL m B.length) x) (fun i => (i : Int)) (fibL m B.length).length (fun i => !decide ((((fibL m B.length).getD i default).length : Int) = 0)) (.inl ()) (.inr ()) ?_ ?_
  ·rw [Int.natCast_zero] at key
   rw [key, Option.bind_some, all_getD (fun x : List Int => !decide ((x.length : Int) = 0))]
   cases (fibL m B.length).all fun x => !decide ((x.length : Int) = 0) <;> rfl
  ·intro i hi
   simp only [s_coOnto_l0_S, Int.toNat_natCast]
   rw [if_pos (lt_nat hi), ckT ⟨by omega, hi⟩, wrS i (by omega)]
   by_cases hz : ((((fibL m B.length).getD i default).length : Int) = 0)
   ·rw [if_pos hz, decide_eq_true hz]; rfl
   ·rw [if_neg hz, decide_eq_false hz]; rfl
  ·simp only [s_coOnto_l0_S]
   rw [if_neg (not_lt_nat _)]
theorem refutes_both (E : List (List (Int × Int))) (ids ins : List Int) (F : List (List (Int × Int))) (jds jns m : List Int) (hE : ShortE E) (h1 : ids.length < 1099511627776) (h2 : ins.length < 1099511627776) (hF : ShortE F) (h3 : jds.length < 1099511627776) (h4 : jns.length < 1099511627776) (hm : m.length < 1099511627776) :
  ∃ x y, s_RefutesSize E ids ins F jds jns m = some (x, y) ∧ i_RefutesSize E ids ins F jds jns m = some (x, y) := by
 unfold s_RefutesSize i_RefutesSize s_IsCovering
 simp only [ckT hE, ckT h1, ckT h2, ckT hF, ckT h3, ckT h4]
 by_cases n1 : isNet E ids ins = true
 ·simp only [if_pos n1]
  by_cases n2 : isNet F jds jns = true
  ·simp only [if_pos n2]
   obtain ⟨p1, p2⟩ := pm_both n2 n1 m hm
   rw [i_con_eq n2, s_con_eq n2, p1, p2]
   simp only [Option.bind_some]
   cases hp : pmB F E jns ins m with
   | false =>
    simp only [Bool.false_eq_true, if_false, Option.bind_some, if_true]
    refine ⟨_, _, rfl, ?_⟩
    split
    ·split <;> rfl
    ·rfl
   | true =>
    obtain ⟨r, c1, c2⟩ := cover_both (ib := ids) (port_net n2).1 (port_net n1).1 hp
    rw [c1, c2]
    simp only [if_true, Option.bind_some]
    cases r with
    | false =>
     simp only [Bool.false_eq_true, if_false]
     refine ⟨_, _, rfl, ?_⟩
     split
     ·split <;> rfl
     ·rfl
    | true =>
     simp only [if_true]
     cases conE F with
     | false => exact ⟨_, _, rfl, rfl⟩
     | true =>
      simp only [if_true]
      refine ⟨_, _, rfl, ?_⟩
      by_cases hl : (E.length : Int) < (F.length : Int)
      ·rw [if_pos hl, decide_eq_true hl]
      ·rw [if_neg hl, decide_eq_false hl]
  ·simp only [if_neg n2]; exact ⟨_, _, rfl, rfl⟩
 ·simp only [if_neg n1]; exact ⟨_, _, rfl, rfl⟩

end Go.Proofs.Ytipfckompmhljaa
