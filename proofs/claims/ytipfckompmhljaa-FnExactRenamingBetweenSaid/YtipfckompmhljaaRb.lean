/- Renamings between problems: program and reference agree. Conditions: those in each lemma. -/
import Derived.Test.YtipfckompmhljaaL6
import Derived.Test.YtipfckompmhljaaRbA
import Derived.Test.YtipfckompmhljaaRbp
import Derived.Test.YtipfckompmhljaaHas
import Derived.Test.YtipfckompmhljaaCut
namespace Go.Proofs.Ytipfckompmhljaa
open Go Dv
set_option linter.unusedSimpArgs false
set_option linter.unusedVariables false
set_option maxRecDepth 100000


def lastL (c : List Int) : Int := c.getD (c.length - 1) default
theorem last_max {c : List Int} (h : c.Pairwise fun a b => a ≤ b) {a : Int} (ha : a ∈ c) : a ≤ lastL c := by
 obtain ⟨i, hi, rfl⟩ := List.getElem_of_mem ha
 unfold lastL
 rw [getD_get _ _ (by omega)]
 by_cases e : i = c.length - 1
 ·subst e; exact Int.le_refl _
 ·exact List.pairwise_iff_getElem.1 h i (c.length - 1) hi (by omega) (by omega)
/-- Configurations: short, sorted, with labels below a number. -/
structure GoodC (l : List (List Int)) (n : Int) : Prop where
 len : ∀ c ∈ l, 1 ≤ c.length ∧ c.length ≤ 4
 srt : ∀ c ∈ l, c.Pairwise fun a b => a ≤ b
 rng : ∀ c ∈ l, ∀ a ∈ c, 0 ≤ a ∧ a < n
theorem goodC_of {l : List (List Int)} {s n : Int} (hs : 1 ≤ s ∧ s ≤ 4) (h : confs l s n = true) : GoodC l n := by
 refine ⟨fun c hc => ?_, fun c hc => sortedB_pair (confs_at h hc).2.1, fun c hc a ha => ?_⟩
 ·have := (confs_at h hc).1; omega
 ·have := (confs_at h hc).2.2
  unfold allIn at this
  have := inR_iff.1 (List.all_eq_true.1 this a ha)
  omega
/-- Are the configurations whose last label is the last one with an image taken to configurations? -/
def kepV (l m : List (List Int)) (r : List Int) (t : Nat) : Bool := !decide (lastL (l.getD t default) = (r.length : Int) - 1) || m.contains (sortI ((l.getD t default).map (imgL r)))
def kepB (l m : List (List Int)) (r : List Int) : Bool := (List.range l.length).all (kepV l m r)
theorem kepB_iff {l m : List (List Int)} {r : List Int} : kepB l m r = true ↔ ∀ c ∈ l, lastL c = (r.length : Int) - 1 → sortI (c.map (imgL r)) ∈ m := by
 unfold kepB kepV
 rw [all_getD (fun c => !decide (lastL c = (r.length : Int) - 1) || m.contains (sortI (c.map (imgL r)))), List.all_eq_true]
 constructor
 ·intro h c hc hl
  have := h c hc
  rw [decide_eq_true hl] at this
  simpa using this
 ·intro h c hc
  by_cases hl : lastL c = (r.length : Int) - 1
  ·have := h c hc hl
   rw [decide_eq_true hl]; simpa using this
  ·rw [decide_eq_false hl]; rfl
theorem mapped_eq (x0 x1 : Int) (x2 x3 : List (List Int)) (x4 x5 : Int) (x6 x7 : List (List Int)) {l m : List (List Int)} {n : Int} (r : List Int) (hg : GoodC l n) (h8 : r.length ≤ 8) (hl : Short l) (hm : Short m) (hi : incL m = true) :
  i_renamer_mapped x0 x1 x2 x3 x4 x5 x6 x7 r l m = some (kepB l m r) := by
 have h1 := hl.1
 have inner : ∀ t : Nat, t < l.length → lastL (l.getD t default) = (r.length : Int) - 1 → i_renamer_mapped_l0 x0 x1 x2 x3 x4 x5 x6 x7 r l m (t : Int) ([], 0) = some ((l.getD t default).map (imgL r)) := by
  intro t ht hlast
  have hc : l.getD t default ∈ l := by rw [getD_get _ _ ht]; exact List.getElem_mem ht
  have hlen := hg.len _ hc
  unfold i_renamer_mapped_l0
  refine itO_push (fun v => i_renamer_mapped_l0_S x0 x1 x2 x3 x4 x5 x6 x7 r l m (t : Int) v.1 v.2) (l.getD t default) (imgL r) ?_ ?_
  ·intro i hi' out ho
   have ha := last_max (hg.srt _ hc) (List.getElem_mem hi')
   have h0 := hg.rng _ hc _ (List.getElem_mem hi')
   simp only [i_renamer_mapped_l0_S, Int.toNat_natCast, getD_get _ _ hi']
   rw [if_pos (lt_nat hi'), ckT ⟨by omega, hi'⟩, ckT (by omega), ckT (by omega), wrS i (by omega)]
   rfl
  ·intro out ho
   simp only [i_renamer_mapped_l0_S, Int.toNat_natCast]
   rw [if_neg (not_lt_nat _)]
 unfold i_renamer_mapped i_renamer_mapped_l1
 have key := itO_all (fun v => i_renamer_mapped_l1_S x0 x1 x2 x3 x4 x5 x6 x7 r l m v) (fun i => (i : Int)) l.length (kepV l m r) (.inl ()) (.inr ()) ?_ ?_
 ·rw [Int.natCast_zero] at key
  rw [key, Option.bind_some]
  unfold kepB
  cases (List.range l.length).all (kepV l m r) <;> rfl
 ·intro t ht
  have hc : l.getD t default ∈ l := by rw [getD_get _ _ ht]; exact List.getElem_mem ht
  have hlen := hg.len _ hc
  simp only [i_renamer_mapped_l1_S, Int.toNat_natCast, wr64 (((l.getD t default).length : Int) - 1) (by omega), wr64 ((r.length : Int) - 1) (by omega), show (((l.getD t default).length : Int) - 1).toNat = (l.getD t default).length - 1 by omega]
  rw [if_pos (lt_nat ht), ckT ⟨by omega, ht⟩, ckT (by omega), wrS t (by omega)]
  by_cases hlast : lastL (l.getD t default) = (r.length : Int) - 1
  ·rw [if_pos (by exact hlast), inner t ht hlast, Option.bind_some, ckT hm, ckT (by rw [List.length_map]; omega), ckT hi]
   unfold kepV
   rw [decide_eq_true hlast]
   cases m.contains (sortI ((l.getD t default).map (imgL r))) <;> rfl
  ·rw [if_neg (by exact hlast)]
   unfold kepV
   rw [decide_eq_false hlast]; rfl
 ·simp only [i_renamer_mapped_l1_S]
  rw [if_neg (not_lt_nat _)]
theorem through_eq (r c : List Int) (h8 : r.length ≤ 8) (hc : c.length ≤ 4) (h : ∀ a ∈ c, 0 ≤ a ∧ a.toNat < r.length) : s_coThrough r c = some (c.map (imgL r)) := by
 unfold s_coThrough s_coThrough_l0
 have key := itO_push (fun v => s_coThrough_l0_S r c v.1 v.2) c (imgL r) ?_ ?_
 ·rw [key]; rfl
 ·intro i hi out ho
  have h0 := h _ (List.getElem_mem hi)
  simp only [s_coThrough_l0_S, Int.toNat_natCast, getD_get _ _ hi]
  rw [if_pos (lt_nat hi), ckT ⟨by omega, hi⟩, ckT h0, ckT (by omega), wrS i (by omega)]
  rfl
 ·intro out ho
  simp only [s_coThrough_l0_S]
  rw [if_neg (not_lt_nat _)]
theorem kept_eq {l m : List (List Int)} {n : Int} (r : List Int) (hg : GoodC l n) (h8 : r.length ≤ 8) (hl : Short l) (hm : Short m) : s_prKept l m r = some (kepB l m r) := by
 have h1 := hl.1
 unfold s_prKept s_prKept_l0
 have key := itO_all (fun v => s_prKept_l0_S l m r v) (fun i => (i : Int)) l.length (kepV l m r) (.inl ()) (.inr ()) ?_ ?_
 ·rw [Int.natCast_zero] at key
  rw [key, Option.bind_some]
  unfold kepB
  cases (List.range l.length).all (kepV l m r) <;> rfl
 ·intro t ht
  have hc : l.getD t default ∈ l := by rw [getD_get _ _ ht]; exact List.getElem_mem ht
  have hlen := hg.len _ hc
  simp only [s_prKept_l0_S, Int.toNat_natCast, wr64 (((l.getD t default).length : Int) - 1) (by omega), wr64 ((r.length : Int) - 1) (by omega), show (((l.getD t default).length : Int) - 1).toNat = (l.getD t default).length - 1 by omega]
  rw [if_pos (lt_nat ht), ckT ⟨by omega, ht⟩, ckT (by omega), wrS t (by omega)]
  by_cases hlast : lastL (l.getD t default) = (r.length : Int) - 1
  ·have hr : ∀ a ∈ l.getD t default, 0 ≤ a ∧ a.toNat < r.length := fun a ha => by
    have q1 := last_max (hg.srt _ hc) ha
    have q2 := hg.rng _ hc a ha
    omega
   have hm1 := hm.1
   rw [if_pos (by exact hlast), through_eq r _ h8 hlen.2 hr, Option.bind_some, ckT (by rw [List.length_map]; omega), ckT hm1, ckT (by rw [(sortI_perm _).length_eq, List.length_map]; omega)]
   unfold kepV
   rw [decide_eq_true hlast]
   cases m.contains (sortI ((l.getD t default).map (imgL r))) <;> rfl
  ·rw [if_neg (by exact hlast)]
   unfold kepV
   rw [decide_eq_false hlast]; rfl
 ·simp only [s_prKept_l0_S]
  rw [if_neg (not_lt_nat _)]
/-- How often a label is in configurations. -/
def cntV (l : List (List Int)) (a : Int) : List Int := (List.range 5).map fun k => (cntL l a k : Int)
theorem count_loop (l : List (List Int)) (a : Int) (out : List Int) (t : Nat) (h4 : (l.getD t default).length ≤ 4) : s_prCount_l0 l a out (t : Int) (0, 0) = some ((l.getD t default).count a : Int) := by
 unfold s_prCount_l0
 have key := itO_for (fun v => s_prCount_l0_S l a out (t : Int) v.1 v.2) (fun i => ((((l.getD t default).take i).count a : Int), (i : Int))) (l.getD t default).length (((l.getD t default).count a : Nat) : Int) ?_ ?_
 ·simpa using key
 ·intro i hi
  have hc : ((l.getD t default).take i).count a ≤ i := Nat.le_trans List.count_le_length (by rw [List.length_take]; omega)
  simp only [s_prCount_l0_S, Int.toNat_natCast, getD_get _ _ hi]
  rw [if_pos (lt_nat hi), ckT ⟨by omega, hi⟩, wrS i (by omega), List.take_succ_eq_append_getElem hi, List.count_append]
  by_cases e : a = (l.getD t default)[i]
  ·rw [if_pos e, wr64 _ (by omega), ← e]
   simp
  ·rw [if_neg e]
   have : [(l.getD t default)[i]].count a = 0 := List.count_eq_zero.2 (by simpa using e)
   rw [this]; simp
 ·simp only [s_prCount_l0_S, Int.toNat_natCast]
  rw [if_neg (not_lt_nat _), List.take_length]
theorem cntL_le (l : List (List Int)) (a : Int) (k : Nat) : cntL l a k ≤ l.length := List.countP_le_length
theorem prCount_eq (l : List (List Int)) (a : Int) (h1 : l.length < 1099511627776) (h4 : ∀ c ∈ l, c.length ≤ 4) : s_prCount l a = some (cntV l a) := by
 unfold s_prCount s_prCount_l1
 have key := itO_for (fun v => s_prCount_l1_S l a v.1 v.2) (fun i => (cntV (l.take i) a, (i : Int))) l.length (cntV l a) ?_ ?_
 ·have e : cntV (l.take 0) a = [0, 0, 0, 0, 0] := rfl
  rw [e, Int.natCast_zero] at key
  rw [key]; rfl
 ·intro i hi
  have hc : l.getD i default ∈ l := by rw [getD_get _ _ hi]; exact List.getElem_mem hi
  have h4i := h4 _ hc
  have hcl : (l.getD i default).count a ≤ 4 := Nat.le_trans List.count_le_length h4i
  have hlen : (cntV (l.take i) a).length = 5 := by simp [cntV]
  have hle := cntL_le (l.take i) a ((l.getD i default).count a)
  rw [List.length_take] at hle
  have hget : (cntV (l.take i) a).getD ((l.getD i default).count a) default = (cntL (l.take i) a ((l.getD i default).count a) : Int) := by
   rw [getD_get _ _ (by rw [hlen]; omega)]; simp [cntV]
  simp only [s_prCount_l1_S]
  rw [if_pos (lt_nat hi), ckT ⟨by omega, by omega⟩, count_loop l a _ i h4i, Option.bind_some, ckT (by rw [hlen]; omega), Int.toNat_natCast, hget, wr64 _ (by omega), wrS i (by omega)]
  congr 3
  refine List.ext_getElem (by simp [cntV]) fun k k1 k2 => ?_
  have hk : k < 5 := by simpa [cntV] using k2
  rw [List.getElem_set]
  have e3 : cntL (l.take (i + 1)) a k = cntL (l.take i) a k + if (l.getD i default).count a = k then 1 else 0 := by
   unfold cntL
   rw [List.take_succ_eq_append_getElem hi, List.countP_append, List.countP_singleton, getD_get _ _ hi]
   by_cases e : l[i].count a = k
   ·rw [if_pos (by simpa using e), if_pos e]
   ·rw [if_neg (by simpa using e), if_neg e]
  simp only [cntV, List.getElem_map, List.getElem_range]
  rw [e3]
  by_cases e : (l.getD i default).count a = k
  ·rw [if_pos e, if_pos e, e]; rfl
  ·rw [if_neg e, if_neg e]; rfl
 ·simp only [s_prCount_l1_S]
  rw [if_neg (not_lt_nat _), List.take_length]

/-! ### The searches -/
def c1R (ns es ms fs : List (List Int)) (r : List Int) (b : Nat) : Bool := kepB ns ms (r ++ [(b : Int)]) && kepB es fs (r ++ [(b : Int)])
def c2R (ns es ms fs : List (List Int)) (r : List Int) (b : Nat) : Bool := decide (cntV ns (r.length : Int) = cntV ms (b : Int)) && (decide (cntV es (r.length : Int) = cntV fs (b : Int)) && (kepB es fs (r ++ [(b : Int)]) && kepB ns ms (r ++ [(b : Int)])))
theorem itO_some {σ ρ : Type} (f : σ → Option (σ ⊕ ρ)) (st : Nat → σ) (n : Nat) (g : Nat → Option ρ) (miss : ρ) (h : ∀ b, b < n → f (st b) = match g b with | none => some (.inl (st (b + 1))) | some q => some (.inr q)) (e : f (st n) = some (.inr miss)) :
  itO f (st 0) = some (((List.range n).findSome? g).getD miss) := by
 have := itO_list f st (List.range n) g miss (fun i hi => by rw [List.getElem_range]; exact h i (by simpa using hi)) (by rw [List.length_range]; exact e)
 exact this
theorem findSome_map {α β γ : Type} (g : α → Option β) (f : β → γ) : ∀ l : List α, l.findSome? (fun x => (g x).map f) = (l.findSome? g).map f
 | [] => rfl
 | x :: l => by
  rw [List.findSome?_cons, List.findSome?_cons]
  cases g x with
  | none => exact findSome_map g f l
  | some y => rfl
structure TwoP (ns es ms fs : List (List Int)) (n : Nat) : Prop where
 n8 : n ≤ 8
 gn : GoodC ns n
 ge : GoodC es n
 gm : GoodC ms n
 gf : GoodC fs n
 sn : Short ns
 se : Short es
 sm : Short ms
 sf : Short fs
 im : incL ms = true
 jf : incL fs = true
theorem rsearch_eq {ns es ms fs : List (List Int)} {n : Nat} (h : TwoP ns es ms fs n) (d d' L' : Int) : ∀ (m k : Nat) (r : List Int), r.length + m = n → m < k →
  i_renamer_search_N k (n : Int) d ns es L' d' ms fs r = some (match dfs n (c1R ns es ms fs) m r with | some q => (true, (n : Int), d, ns, es, L', d', ms, fs, q) | none => (false, (n : Int), d, ns, es, L', d', ms, fs, r))
 | 0, 0, _, _, hk => by omega
 | 0, k + 1, r, hr, _ => by
  show i_renamer_search_R (i_renamer_search_N k) (n : Int) d ns es L' d' ms fs r = _
  unfold i_renamer_search_R
  rw [if_pos (by omega)]; rfl
 | m + 1, 0, _, _, hk => by omega
 | m + 1, k + 1, r, hr, hk => by
  have n8 := h.n8
  show i_renamer_search_R (i_renamer_search_N k) (n : Int) d ns es L' d' ms fs r = _
  unfold i_renamer_search_R
  rw [if_neg (by omega)]
  have key := itO_some (fun v => i_renamer_search_l0_S (i_renamer_search_N k) (n : Int) v.1 v.2.1 v.2.2.1 v.2.2.2.1 v.2.2.2.2.1 v.2.2.2.2.2.1 v.2.2.2.2.2.2.1 v.2.2.2.2.2.2.2.1 v.2.2.2.2.2.2.2.2.1 v.2.2.2.2.2.2.2.2.2) (fun b => ((b : Int), (n : Int), d, ns, es, L', d', ms, fs, r)) n
   (fun (b : Nat) => (if (!r.contains (b : Int) && c1R ns es ms fs r b) = true then dfs n (c1R ns es ms fs) m (r ++ [(b : Int)]) else none).map fun q => .inl ((n : Int), d, ns, es, L', d', ms, fs, q)) (.inr ((n : Int), d, ns, es, L', d', ms, fs, r)) ?_ ?_
  ·rw [Int.natCast_zero] at key
   have e : i_renamer_search_l0 (i_renamer_search_N k) (n : Int) (0, (n : Int), d, ns, es, L', d', ms, fs, r) = _ := key
   rw [e, findSome_map, Option.bind_some]
   simp only [dfs]
   cases (List.range n).findSome? fun (b : Nat) => if (!r.contains (b : Int) && c1R ns es ms fs r b) = true then dfs n (c1R ns es ms fs) m (r ++ [(b : Int)]) else none <;> rfl
  ·intro b hb
   have ht : ∀ x : List Int, x.length = r.length + 1 → (IntKind.i64.wrap ((x.length : Int) - 1)) = (r.length : Int) := fun x hx => by rw [wr64 _ (by omega)]; omega
   have hl : (r ++ [(b : Int)]).length = r.length + 1 := by simp
   have htk : (r ++ [(b : Int)]).take r.length = r := by rw [List.take_append_of_le_length (Nat.le_refl _), List.take_length]
   simp only [i_renamer_search_l0_S]
   rw [if_pos (lt_nat hb), ckT (by omega), wrS b (by omega)]
   cases hcon : r.contains (b : Int) with
   | true => rw [if_pos rfl]; rfl
   | false =>
    rw [if_neg (by decide), ckT (by omega), mapped_eq _ _ _ _ _ _ _ _ (r ++ [(b : Int)]) h.gn (by omega) h.sn h.sm h.im, Option.bind_some]
    rw [show c1R ns es ms fs r b = (kepB ns ms (r ++ [(b : Int)]) && kepB es fs (r ++ [(b : Int)])) from rfl]
    cases h1 : kepB ns ms (r ++ [(b : Int)]) with
    | false =>
     rw [if_neg (by decide), ht _ hl, ckT (by omega), ckT (by omega), Int.toNat_natCast, htk]; rfl
    | true =>
     rw [if_pos rfl, mapped_eq _ _ _ _ _ _ _ _ (r ++ [(b : Int)]) h.ge (by omega) h.se h.sf h.jf, Option.bind_some]
     cases h2 : kepB es fs (r ++ [(b : Int)]) with
     | false =>
      rw [if_neg (by decide), ht _ hl, ckT (by omega), ckT (by omega), Int.toNat_natCast, htk]; rfl
     | true =>
      rw [if_pos rfl, rsearch_eq h d d' L' m k (r ++ [(b : Int)]) (by omega) (by omega), Option.bind_some]
      simp only [Bool.not_false, Bool.and_self, if_true]
      cases dfs n (c1R ns es ms fs) m (r ++ [(b : Int)]) with
      | some q => rfl
      | none =>
       simp only [Bool.false_eq_true, if_false, Option.map_none]
       rw [ht _ hl, ckT (by omega), ckT (by omega), Int.toNat_natCast, htk]
  ·simp only [i_renamer_search_l0_S]
   rw [if_neg (not_lt_nat _)]
theorem rgrow_eq {ns es ms fs : List (List Int)} {n : Nat} (h : TwoP ns es ms fs n) (d d' : Int) : ∀ (m k : Nat) (r : List Int), r.length + m = n → m < k →
  s_prFinder_grow_N k (n : Int) d ns es (n : Int) d' ms fs r = some (match dfs n (c2R ns es ms fs) m r with | some q => .inl (q, true) | none => .inr ([], false))
 | 0, 0, _, _, hk => by omega
 | 0, k + 1, r, hr, _ => by
  show s_prFinder_grow_R (s_prFinder_grow_N k) (n : Int) d ns es (n : Int) d' ms fs r = _
  unfold s_prFinder_grow_R
  rw [if_pos (by omega)]; rfl
 | m + 1, 0, _, _, hk => by omega
 | m + 1, k + 1, r, hr, hk => by
  have n8 := h.n8
  show s_prFinder_grow_R (s_prFinder_grow_N k) (n : Int) d ns es (n : Int) d' ms fs r = _
  unfold s_prFinder_grow_R
  rw [if_neg (by omega)]
  have key := itO_some (fun v => s_prFinder_grow_l0_S (s_prFinder_grow_N k) (n : Int) d ns es (n : Int) d' ms fs r v) (fun b => (b : Int)) n
   (fun (b : Nat) => (if (!r.contains (b : Int) && c2R ns es ms fs r b) = true then dfs n (c2R ns es ms fs) m (r ++ [(b : Int)]) else none).map fun q => .inl q) (.inr (.inr ())) ?_ ?_
  ·rw [Int.natCast_zero] at key
   have e : s_prFinder_grow_l0 (s_prFinder_grow_N k) (n : Int) d ns es (n : Int) d' ms fs r 0 = _ := key
   rw [e, findSome_map, Option.bind_some]
   simp only [dfs]
   cases (List.range n).findSome? fun (b : Nat) => if (!r.contains (b : Int) && c2R ns es ms fs r b) = true then dfs n (c2R ns es ms fs) m (r ++ [(b : Int)]) else none <;> rfl
  ·intro b hb
   have hl : (r ++ [(b : Int)]).length = r.length + 1 := by simp
   have v5 : ∀ (l : List (List Int)) (a : Int), (cntV l a).length < 1099511627776 := fun l a => by simp [cntV]
   simp only [s_prFinder_grow_l0_S]
   rw [if_pos (lt_nat hb), ckT (by omega), wrS b (by omega)]
   cases hcon : r.contains (b : Int) with
   | true => rw [if_pos rfl]; rfl
   | false =>
    rw [if_neg (by decide), prCount_eq ns _ h.sn.1 (fun c hc => (h.gn.len c hc).2), Option.bind_some, prCount_eq ms _ h.sm.1 (fun c hc => (h.gm.len c hc).2), Option.bind_some, l1Same_eq _ _ (v5 _ _), Option.bind_some]
    rw [show c2R ns es ms fs r b = (decide (cntV ns (r.length : Int) = cntV ms (b : Int)) && (decide (cntV es (r.length : Int) = cntV fs (b : Int)) && (kepB es fs (r ++ [(b : Int)]) && kepB ns ms (r ++ [(b : Int)])))) from rfl]
    by_cases h1 : cntV ns (r.length : Int) = cntV ms (b : Int)
    ·rw [if_pos (decide_eq_true h1), decide_eq_true h1, prCount_eq es _ h.se.1 (fun c hc => (h.ge.len c hc).2), Option.bind_some, prCount_eq fs _ h.sf.1 (fun c hc => (h.gf.len c hc).2), Option.bind_some, l1Same_eq _ _ (v5 _ _), Option.bind_some]
     by_cases h2 : cntV es (r.length : Int) = cntV fs (b : Int)
     ·rw [if_pos (decide_eq_true h2), decide_eq_true h2]
      unfold s_l1Own
      rw [ckT (by omega), Option.bind_some, ckT (by omega), kept_eq (r ++ [(b : Int)]) h.ge (by omega) h.se h.sf, Option.bind_some]
      cases h3 : kepB es fs (r ++ [(b : Int)]) with
      | false => rw [if_neg (by decide)]; rfl
      | true =>
       rw [if_pos rfl, kept_eq (r ++ [(b : Int)]) h.gn (by omega) h.sn h.sm, Option.bind_some]
       cases h4 : kepB ns ms (r ++ [(b : Int)]) with
       | false => rw [if_neg (by decide)]; rfl
       | true =>
        rw [if_pos rfl, rgrow_eq h d d' m k (r ++ [(b : Int)]) (by omega) (by omega), Option.bind_some]
        simp only [Bool.not_false, Bool.and_self, if_true]
        cases dfs n (c2R ns es ms fs) m (r ++ [(b : Int)]) <;> rfl
     ·rw [if_neg (by simpa using h2), decide_eq_false h2]; rfl
    ·rw [if_neg (by simpa using h1), decide_eq_false h1]; rfl
  ·simp only [s_prFinder_grow_l0_S]
   rw [if_neg (not_lt_nat _)]
theorem incL_nodup {l : List (List Int)} (h : incL l = true) : l.Nodup := by
 rw [List.nodup_iff_pairwise_ne, List.pairwise_iff_getElem]
 intro i j hi hj hij e
 have := incL_lt h (j - i - 1) i (by omega)
 rw [show i + (j - i - 1) + 1 = j by omega, getD_get _ _ hi, getD_get _ _ hj, e, cmpL_refl] at this
 omega
theorem kept_all {l m : List (List Int)} {n : Nat} (hg : GoodC l n) {r : List Int} (hr : r.length = n) (h : ∀ j, 1 ≤ j → j ≤ r.length → kepB l m (r.take j) = true) : ∀ c ∈ l, sortI (c.map (imgL r)) ∈ m := by
 intro c hc
 have hl := hg.len c hc
 have hlast : lastL c ∈ c := by unfold lastL; rw [getD_get _ _ (by omega)]; exact List.getElem_mem _
 have h0 := hg.rng c hc _ hlast
 have := kepB_iff.1 (h ((lastL c).toNat + 1) (by omega) (by omega)) c hc (by rw [List.length_take]; omega)
 have e : c.map (imgL (r.take ((lastL c).toNat + 1))) = c.map (imgL r) := by
  refine List.map_congr_left fun a ha => ?_
  have q1 := last_max (hg.srt c hc) ha
  have q2 := hg.rng c hc a ha
  unfold imgL
  rw [List.getD_eq_getElem?_getD, List.getD_eq_getElem?_getD, List.getElem?_take_of_lt (by omega)]
 rwa [e] at this
theorem dfs_both {ns es ms fs : List (List Int)} {n : Nat} (h : TwoP ns es ms fs n) (hi : incL ns = true) (hj : incL es = true) (h1 : ns.length = ms.length) (h2 : es.length = fs.length) : dfs n (c1R ns es ms fs) n [] = dfs n (c2R ns es ms fs) n [] := by
 have hQ : ∀ (π : List Int) (b : Nat), (π.Nodup ∧ ∀ j, 1 ≤ j → j ≤ π.length → kepB ns ms (π.take j) = true ∧ kepB es fs (π.take j) = true) → b < n → ¬ (b : Int) ∈ π → c1R ns es ms fs π b = true →
   ((π ++ [(b : Int)]).Nodup ∧ ∀ j, 1 ≤ j → j ≤ (π ++ [(b : Int)]).length → kepB ns ms ((π ++ [(b : Int)]).take j) = true ∧ kepB es fs ((π ++ [(b : Int)]).take j) = true) := by
  rintro π b ⟨q1, q2⟩ hb hni hc
  refine ⟨?_, fun j j1 j2 => ?_⟩
  ·rw [List.nodup_append]
   exact ⟨q1, by simp, fun a ha b' hb' e => hni (by rw [List.mem_singleton] at hb'; rw [← hb', ← e]; exact ha)⟩
  ·rw [List.length_append, List.length_singleton] at j2
   by_cases e : j ≤ π.length
   ·rw [List.take_append_of_le_length e]; exact q2 j j1 e
   ·have : (π ++ [(b : Int)]).take j = π ++ [(b : Int)] := List.take_of_length_le (by simp; omega)
    rw [this]
    unfold c1R at hc
    rwa [Bool.and_eq_true] at hc
 refine dfs_same n (c1R ns es ms fs) (c2R ns es ms fs) (fun π => π.Nodup ∧ ∀ j, 1 ≤ j → j ≤ π.length → kepB ns ms (π.take j) = true ∧ kepB es fs (π.take j) = true) hQ ?_ ?_ n [] (by simp) ⟨List.nodup_nil, fun j j1 j2 => by simp at j2; omega⟩
 ·intro π b _ _ hc
  unfold c2R at hc
  unfold c1R
  simp only [Bool.and_eq_true] at hc ⊢
  exact ⟨hc.2.2.2, hc.2.2.1⟩
 ·intro m π b r hq hb hni hc hlen hd
  obtain ⟨⟨r1, r2⟩, r3, dd, r4⟩ := dfs_some n (c1R ns es ms fs) (fun π => π.Nodup ∧ ∀ j, 1 ≤ j → j ≤ π.length → kepB ns ms (π.take j) = true ∧ kepB es fs (π.take j) = true) hQ m _ r hd (hQ π b hq hb hni hc)
  rw [List.length_append, List.length_singleton] at r3
  have hrn : r.length = n := by omega
  have hn := kept_all h.gn hrn (fun j j1 j2 => (r2 j j1 j2).1)
  have he := kept_all h.ge hrn (fun j j1 j2 => (r2 j j1 j2).2)
  have himg : imgL r (π.length : Int) = (b : Int) := by
   unfold imgL
   rw [Int.toNat_natCast, r4, List.append_assoc, List.getD_eq_getElem?_getD, List.getElem?_append_right (Nat.le_refl _), Nat.sub_self]; rfl
  have perm_eq : ∀ {l : List (List Int)}, GoodC l n → ∀ x ∈ l, ∀ y ∈ l, x.Perm y → x = y := fun hg x hx y hy hp =>
   List.Perm.eq_of_pairwise (le := fun a b : Int => a ≤ b) (fun a b _ _ h1 h2 => Int.le_antisymm h1 h2) (hg.srt x hx) (hg.srt y hy) hp
  have rng : ∀ {l : List (List Int)}, GoodC l n → ∀ c ∈ l, ∀ a ∈ c, 0 ≤ a ∧ a.toNat < r.length := fun hg c hc a ha => by have := hg.rng c hc a ha; omega
  have c1 : cntV ns (π.length : Int) = cntV ms (b : Int) := by
   unfold cntV
   refine List.map_congr_left fun k _ => ?_
   rw [cntL_same (srt := sortI) sortI_perm r1 (rng h.gn) (incL_nodup hi) h1 (perm_eq h.gn) hn (π.length : Int) (by omega) (by omega) k, himg]
  have c2 : cntV es (π.length : Int) = cntV fs (b : Int) := by
   unfold cntV
   refine List.map_congr_left fun k _ => ?_
   rw [cntL_same (srt := sortI) sortI_perm r1 (rng h.ge) (incL_nodup hj) h2 (perm_eq h.ge) he (π.length : Int) (by omega) (by omega) k, himg]
  unfold c1R at hc
  unfold c2R
  rw [Bool.and_eq_true] at hc
  rw [decide_eq_true c1, decide_eq_true c2, hc.1, hc.2]; rfl
theorem renaming_both (a d : Int) (ns es : List (List Int)) (a' d' : Int) (ms fs : List (List Int)) (hn : Short ns) (he : Short es) (hm : Short ms) (hf : Short fs) :
  ∃ r ok, (s_RenamingBetween a d ns es a' d' ms fs = some (.inl (r, ok)) ∨ s_RenamingBetween a d ns es a' d' ms fs = some (.inr (r, ok))) ∧ i_RenamingBetween a d ns es a' d' ms fs = some (r, ok) ∧ r.length ≤ 8 := by
 unfold s_RenamingBetween i_RenamingBetween
 rw [ckT hn, ckT he, ckT hn, ckT he]
 by_cases p1 : isProb a d ns es = true
 ·rw [if_pos p1, if_pos p1, ckT hm, ckT hf, ckT hm, ckT hf]
  by_cases p2 : isProb a' d' ms fs = true
  ·rw [if_pos p2, if_pos p2]
   by_cases e1 : a = a'
   ·rw [if_pos e1, if_pos e1]
    by_cases e2 : d = d'
    ·rw [if_pos e2, if_pos e2]
     by_cases e3 : (ns.length : Int) = (ms.length : Int)
     ·rw [if_pos e3, if_pos e3]
      by_cases e4 : (es.length : Int) = (fs.length : Int)
      ·rw [if_pos e4, if_pos e4]
       subst e1
       obtain ⟨q1, q2, q3, q4⟩ := isProb_cut p1
       obtain ⟨_, q2', q3', q4'⟩ := isProb_cut p2
       obtain ⟨n, rfl⟩ : ∃ n : Nat, a = (n : Int) := ⟨a.toNat, by omega⟩
       have T : TwoP ns es ms fs n := ⟨by omega, goodC_of q2 q3, goodC_of (by omega) q4, goodC_of q2' q3', goodC_of (by omega) q4', hn, he, hm, hf, confs_inc q3', confs_inc q4'⟩
       have hS := rgrow_eq T d d' n 1000000 [] (by simp) (by omega)
       have hI := rsearch_eq T d d' (n : Int) n 1000000 [] (by simp) (by omega)
       rw [dfs_both T (confs_inc q3) (confs_inc q4) (by omega) (by omega)] at hI
       have hS' : s_prFinder_grow (n : Int) d ns es (n : Int) d' ms fs [] = _ := hS
       have hI' : i_renamer_search (n : Int) d ns es (n : Int) d' ms fs [] = _ := hI
       rw [hS', hI', Option.bind_some, Option.bind_some]
       cases hd : dfs n (c2R ns es ms fs) n [] with
       | none => exact ⟨_, _, .inr rfl, rfl, by simp⟩
       | some r =>
        have := (dfs_some n (c2R ns es ms fs) (fun _ => True) (fun _ _ _ _ _ _ => trivial) n [] r hd trivial).2.1
        exact ⟨_, _, .inl rfl, rfl, by show r.length ≤ 8; simp at this; omega⟩
      ·rw [if_neg e4, if_neg e4]; exact ⟨_, _, .inr rfl, rfl, by simp⟩
     ·rw [if_neg e3, if_neg e3]; exact ⟨_, _, .inr rfl, rfl, by simp⟩
    ·rw [if_neg e2, if_neg e2]; exact ⟨_, _, .inr rfl, rfl, by simp⟩
   ·rw [if_neg e1, if_neg e1]; exact ⟨_, _, .inr rfl, rfl, by simp⟩
  ·rw [if_neg p2, if_neg p2]; exact ⟨_, _, .inr rfl, rfl, by simp⟩
 ·rw [if_neg p1, if_neg p1]; exact ⟨_, _, .inr rfl, rfl, by simp⟩

end Go.Proofs.Ytipfckompmhljaa
