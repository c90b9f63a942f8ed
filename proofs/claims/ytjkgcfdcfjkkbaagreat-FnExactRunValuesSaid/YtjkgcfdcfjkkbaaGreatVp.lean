/- Value programs, as plain functions: a step of the program and of the reference agree. Conditions: none. -/
import Derived.Test.YtjkgcfdcfjkkbaaGreatL6
import Derived.Test.YtjkgcfdcfjkkbaaGreatVpA
namespace Go.Proofs.YtjkgcfdcfjkkbaaGreat
open Go Dv
set_option linter.unusedSimpArgs false
set_option linter.unusedVariables false
set_option maxRecDepth 100000


theorem range_all {n : Nat} {p : Nat → Bool} : (List.range n).all p = true ↔ ∀ i, i < n → p i = true := by
 rw [List.all_eq_true]
 exact ⟨fun h i hi => h i (List.mem_range.2 hi), fun h i hi => h i (List.mem_range.1 hi)⟩
theorem allIn_iff {l : List Int} {lo hi : Int} : allIn l lo hi = true ↔ ∀ x ∈ l, lo ≤ x ∧ x ≤ hi := by
 unfold allIn
 rw [List.all_eq_true]
 exact ⟨fun h x hx => inR_iff.1 (h x hx), fun h x hx => inR_iff.2 (h x hx)⟩
/-- How many values an operation takes. -/
def nd (k : Int) : Nat := if k ≤ 10 then 0 else if k ≤ 12 then 1 else if k ≤ 18 then 2 else 3
theorem nd_le (k : Int) : nd k ≤ 3 := by unfold nd; split <;> (try split) <;> (try split) <;> omega
theorem i_needs_eq (k v : Int) : i_ValueOp_needs k v = some (nd k : Int) := by
 unfold i_ValueOp_needs nd
 by_cases h1 : k ≤ 10
 ·rw [if_pos h1, if_pos h1]; rfl
 ·rw [if_neg h1, if_neg h1]
  by_cases h2 : k ≤ 12
  ·rw [if_pos h2, if_pos h2]; rfl
  ·rw [if_neg h2, if_neg h2]
   by_cases h3 : k ≤ 18
   ·rw [if_pos h3, if_pos h3]; rfl
   ·rw [if_neg h3, if_neg h3]; rfl
theorem s_needs_eq (k : Int) (h : k ≤ 19) : s_vaNeeds k = some (nd k : Int) := by
 unfold s_vaNeeds nd
 by_cases h1 : k = 19
 ·subst h1; rfl
 ·rw [if_neg h1]
  by_cases h2 : 13 ≤ k
  ·rw [if_pos h2, if_neg (by omega), if_neg (by omega), if_pos (by omega)]; rfl
  ·rw [if_neg h2]
   by_cases h3 : 11 ≤ k
   ·rw [if_pos h3, if_neg (by omega), if_pos (by omega)]; rfl
   ·rw [if_neg h3, if_pos (by omega)]; rfl
/-- An operation of a program. -/
def okOp (k v : Int) : Bool := inR k 1 19 && inR v 0 (if k = 1 then 1000000 else 0)
/-- How many values lie on the stack behind a program. -/
def hts : List (Int × Int) → Nat → Option Nat
 | [], h => some h
 | q :: r, h => if okOp q.1 q.2 = true ∧ nd q.1 ≤ h then hts r (h - nd q.1 + 1) else none
/-- A valid program. -/
def progB (prog : List (Int × Int)) : Bool := inR prog.length 1 40 && (hts prog 0 == some 1)
theorem i_good_step (prog : List (Int × Int)) (h t : Nat) (hl : prog.length < 1000) (hh : h ≤ 1000) (ht : t < prog.length) : i_IsValueProgram_l0_S prog (h : Int) (t : Int) =
  some (if okOp prog[t].1 prog[t].2 = true ∧ nd prog[t].1 ≤ h then .inl (((h - nd prog[t].1 + 1 : Nat) : Int), ((t + 1 : Nat) : Int)) else .inr (.inl ())) := by
 have hn := nd_le prog[t].1
 have tail : (if (h : Int) < (nd prog[t].1 : Int) then some (Sum.inr (Sum.inl ())) else some (Sum.inl (IntKind.i64.wrap ((h : Int) + (IntKind.i64.wrap (1 - (nd prog[t].1 : Int)))), IntKind.i64.wrap ((t : Int) + 1))) : Option ((Int × Int) ⊕ (Unit ⊕ Int))) =
   some (if nd prog[t].1 ≤ h then .inl (((h - nd prog[t].1 + 1 : Nat) : Int), ((t + 1 : Nat) : Int)) else .inr (.inl ())) := by
  by_cases hc : nd prog[t].1 ≤ h
  ·rw [if_neg (by omega), if_pos hc, wr64 (1 - (nd prog[t].1 : Int)) (by omega), wr64 _ (by omega), wrS t (by omega)]
   congr 3; omega
  ·rw [if_pos (by omega), if_neg hc]
 simp only [i_IsValueProgram_l0_S]
 rw [if_pos (lt_nat ht), ckT (ix_nat ht), Int.toNat_natCast]
 unfold fstD sndD
 rw [getD_get _ _ ht]
 unfold okOp
 by_cases hk : prog[t].1 = 1
 ·rw [if_pos hk, if_pos hk]
  by_cases c1 : inR prog[t].1 1 19 = true
  ·by_cases c2 : inR prog[t].2 0 1000000 = true
   ·rw [if_pos c1, if_pos c2, i_needs_eq, Option.bind_some, tail, c1, c2]
    simp
   ·rw [if_pos c1, if_neg c2, Bool.eq_false_iff.2 c2]; simp
  ·rw [if_neg c1, Bool.eq_false_iff.2 c1]; simp
 ·rw [if_neg hk, if_neg hk]
  by_cases c1 : inR prog[t].1 1 19 = true
  ·by_cases c2 : inR prog[t].2 0 0 = true
   ·rw [if_pos c1, if_pos c2, i_needs_eq, Option.bind_some, tail, c1, c2]
    simp
   ·rw [if_pos c1, if_neg c2, Bool.eq_false_iff.2 c2]; simp
  ·rw [if_neg c1, Bool.eq_false_iff.2 c1]; simp
theorem s_good_step (prog : List (Int × Int)) (h t : Nat) (hl : prog.length < 1000) (hh : h ≤ 1000) (ht : t < prog.length) : s_vaGood_l0_S prog (h : Int) (t : Int) =
  some (if okOp prog[t].1 prog[t].2 = true ∧ nd prog[t].1 ≤ h then .inl (((h - nd prog[t].1 + 1 : Nat) : Int), ((t + 1 : Nat) : Int)) else .inr (.inl ())) := by
 have hn := nd_le prog[t].1
 have tail : (if (h : Int) < (nd prog[t].1 : Int) then some (Sum.inr (Sum.inl ())) else some (Sum.inl (IntKind.i64.wrap ((h : Int) + (IntKind.i64.wrap (1 - (nd prog[t].1 : Int)))), IntKind.i64.wrap ((t : Int) + 1))) : Option ((Int × Int) ⊕ (Unit ⊕ Int))) =
   some (if nd prog[t].1 ≤ h then .inl (((h - nd prog[t].1 + 1 : Nat) : Int), ((t + 1 : Nat) : Int)) else .inr (.inl ())) := by
  by_cases hc : nd prog[t].1 ≤ h
  ·rw [if_neg (by omega), if_pos hc, wr64 (1 - (nd prog[t].1 : Int)) (by omega), wr64 _ (by omega), wrS t (by omega)]
   congr 3; omega
  ·rw [if_pos (by omega), if_neg hc]
 simp only [s_vaGood_l0_S]
 rw [if_pos (lt_nat ht), ckT (ix_nat ht), Int.toNat_natCast]
 unfold fstD sndD
 rw [getD_get _ _ ht]
 unfold okOp
 by_cases c1 : inR prog[t].1 1 19 = true
 ·have c1' := inR_iff.1 c1
  rw [if_pos c1]
  by_cases c2 : inR prog[t].2 0 1000000 = true
  ·rw [if_pos c2]
   have c2' := inR_iff.1 c2
   by_cases hk : prog[t].1 = 1
   ·rw [if_pos hk, if_pos hk, s_needs_eq _ c1'.2, Option.bind_some, tail, c1, c2]
    simp
   ·rw [if_neg hk, if_neg hk]
    by_cases h0 : prog[t].2 = 0
    ·rw [if_pos h0, s_needs_eq _ c1'.2, Option.bind_some, tail, c1]
     have : inR prog[t].2 0 0 = true := inR_iff.2 (by omega)
     rw [this]; simp
    ·have : inR prog[t].2 0 0 = false := Bool.eq_false_iff.2 fun h => h0 (by have := inR_iff.1 h; omega)
     rw [if_neg h0, this]; simp
  ·rw [if_neg c2]
   have : inR prog[t].2 0 (if prog[t].1 = 1 then 1000000 else 0) = false := Bool.eq_false_iff.2 fun h => c2 (by
    have := inR_iff.1 h
    refine inR_iff.2 ⟨this.1, ?_⟩
    split at this <;> omega)
   rw [this]; simp
 ·rw [if_neg c1, Bool.eq_false_iff.2 c1]; simp
theorem good_loop (f : Int × Int → Option ((Int × Int) ⊕ (Unit ⊕ Int))) (prog : List (Int × Int)) (hl : prog.length < 500)
  (hf : ∀ h t : Nat, h ≤ 1000 → ∀ ht : t < prog.length, f ((h : Int), (t : Int)) = some (if okOp prog[t].1 prog[t].2 = true ∧ nd prog[t].1 ≤ h then .inl (((h - nd prog[t].1 + 1 : Nat) : Int), ((t + 1 : Nat) : Int)) else .inr (.inl ())))
  (he : ∀ h : Nat, f ((h : Int), (prog.length : Int)) = some (.inr (.inr (h : Int)))) :
  ∀ (n t h : Nat), n = prog.length - t → t ≤ prog.length → h ≤ t → itO f ((h : Int), (t : Int)) = some (match hts (prog.drop t) h with | some q => .inr (q : Int) | none => .inl ()) := by
 intro n
 induction n with
 | zero =>
  intro t h hn ht hh
  have : t = prog.length := by omega
  subst this
  rw [itO_inr (he h), List.drop_length]; rfl
 | succ n ih =>
  intro t h hn ht hh
  have hlt : t < prog.length := by omega
  have h1 := hf h t (by omega) hlt
  rw [List.drop_eq_getElem_cons hlt]
  unfold hts
  by_cases hc : okOp prog[t].1 prog[t].2 = true ∧ nd prog[t].1 ≤ h
  ·rw [if_pos hc] at h1
   rw [itO_inl h1, if_pos hc]
   exact ih (t + 1) _ (by omega) (by omega) (by omega)
  ·rw [if_neg hc] at h1
   rw [itO_inr h1, if_neg hc]
theorem fin_good (o : Option Nat) : ((some (match o with | some q => Sum.inr (q : Int) | none => Sum.inl ()) : Option (Unit ⊕ Int)).bind fun r4_ => match r4_ with | .inl q4_ => some false | .inr q4_ => some (decide (q4_ = 1))) = some (o == some 1) := by
 cases o with
 | none => rfl
 | some q =>
  simp only [Option.bind_some]
  congr 1
  rw [Bool.eq_iff_iff]
  simp
  omega
theorem i_prog_eq (prog : List (Int × Int)) : i_IsValueProgram prog = some (progB prog) := by
 unfold i_IsValueProgram progB
 by_cases h : inR prog.length 1 40 = true
 ·have h' := inR_iff.1 h
  rw [if_pos h, h, Bool.true_and]
  have := good_loop (fun v => i_IsValueProgram_l0_S prog v.1 v.2) prog (by omega) (fun h t hh ht => i_good_step prog h t (by omega) hh ht) (fun h => by
   simp only [i_IsValueProgram_l0_S]; rw [if_neg (not_lt_nat _)]) prog.length 0 0 rfl (Nat.zero_le _) (Nat.le_refl _)
  rw [List.drop_zero] at this
  unfold i_IsValueProgram_l0
  rw [Int.natCast_zero] at this
  rw [this]
  exact fin_good _
 ·rw [if_neg h, Bool.eq_false_iff.2 h]; rfl
theorem s_prog_eq (prog : List (Int × Int)) : s_vaGood prog = some (progB prog) := by
 unfold s_vaGood progB
 by_cases h : inR prog.length 1 40 = true
 ·have h' := inR_iff.1 h
  rw [if_pos h, h, Bool.true_and]
  have := good_loop (fun v => s_vaGood_l0_S prog v.1 v.2) prog (by omega) (fun h t hh ht => s_good_step prog h t (by omega) hh ht) (fun h => by
   simp only [s_vaGood_l0_S]; rw [if_neg (not_lt_nat _)]) prog.length 0 0 rfl (Nat.zero_le _) (Nat.le_refl _)
  rw [List.drop_zero] at this
  unfold s_vaGood_l0
  rw [Int.natCast_zero] at this
  rw [this]
  exact fin_good _
 ·rw [if_neg h, Bool.eq_false_iff.2 h]; rfl

/-! ### What an operation finds -/
/-- The least, the greatest, the sum. -/
def lstV (own : Int) : List Int → Int
 | [] => own
 | x :: r => r.foldl leastI x
def gstV (own : Int) : List Int → Int
 | [] => own
 | x :: r => r.foldl mostI x
def sumV (l : List Int) : Int := l.foldl (fun s y => IntKind.i64.wrap (s + y)) 0
theorem lstV_snoc (own : Int) (l : List Int) (x : Int) (h : l ≠ []) : lstV own (l ++ [x]) = leastI (lstV own l) x := by
 cases l with
 | nil => exact (h rfl).elim
 | cons y r => simp [lstV]
theorem gstV_snoc (own : Int) (l : List Int) (x : Int) (h : l ≠ []) : gstV own (l ++ [x]) = mostI (gstV own l) x := by
 cases l with
 | nil => exact (h rfl).elim
 | cons y r => simp [gstV]
theorem sumV_snoc (l : List Int) (x : Int) : sumV (l ++ [x]) = IntKind.i64.wrap (sumV l + x) := by simp [sumV]
theorem min_eq (own : Int) (near : List Int) (h : near.length < 1099511627776) (h0 : 0 < near.length) : g_slices_Min_Sint_int near = some (lstV own near) := by
 have key := itO_for (fun v => g_slices_Min_Sint_int_l0_S near v.1 v.2) (fun i => (lstV own (near.take (i + 1)), ((i + 1 : Nat) : Int))) (near.length - 1) (lstV own near) ?_ ?_
 ·unfold g_slices_Min_Sint_int g_slices_Min_Sint_int_l0
  rw [if_neg (by omega), ckT h0]
  have e : near.take (0 + 1) = [near.getD 0 default] := by
   cases near with
   | nil => simp at h0
   | cons x r => simp
  rw [e] at key
  have e2 : lstV own [near.getD 0 default] = near.getD 0 default := rfl
  simp only [e2] at key
  have e3 : ((0 + 1 : Nat) : Int) = 1 := rfl
  rw [e3] at key
  rw [key]; rfl
 ·intro i hi
  have hi' : i + 1 < near.length := by omega
  simp only [g_slices_Min_Sint_int_l0_S]
  rw [if_pos (lt_nat hi'), ckT (ix_nat hi'), Int.toNat_natCast, wrS (i + 1) (by omega), getD_get _ _ (by omega), List.take_succ_eq_append_getElem (i := i + 1) (by omega), lstV_snoc _ _ _ (by
   intro hc; have := congrArg List.length hc; rw [List.length_take, List.length_nil] at this; omega)]
 ·simp only [g_slices_Min_Sint_int_l0_S]
  rw [show near.length - 1 + 1 = near.length by omega, if_neg (not_lt_nat _), List.take_length]
theorem max_eq (own : Int) (near : List Int) (h : near.length < 1099511627776) (h0 : 0 < near.length) : g_slices_Max_Sint_int near = some (gstV own near) := by
 have key := itO_for (fun v => g_slices_Max_Sint_int_l0_S near v.1 v.2) (fun i => (gstV own (near.take (i + 1)), ((i + 1 : Nat) : Int))) (near.length - 1) (gstV own near) ?_ ?_
 ·unfold g_slices_Max_Sint_int g_slices_Max_Sint_int_l0
  rw [if_neg (by omega), ckT h0]
  have e : near.take (0 + 1) = [near.getD 0 default] := by
   cases near with
   | nil => simp at h0
   | cons x r => simp
  rw [e] at key
  have e2 : gstV own [near.getD 0 default] = near.getD 0 default := rfl
  simp only [e2] at key
  have e3 : ((0 + 1 : Nat) : Int) = 1 := rfl
  rw [e3] at key
  rw [key]; rfl
 ·intro i hi
  have hi' : i + 1 < near.length := by omega
  simp only [g_slices_Max_Sint_int_l0_S]
  rw [if_pos (lt_nat hi'), ckT (ix_nat hi'), Int.toNat_natCast, wrS (i + 1) (by omega), getD_get _ _ (by omega), List.take_succ_eq_append_getElem (i := i + 1) (by omega), gstV_snoc _ _ _ (by
   intro hc; have := congrArg List.length hc; rw [List.length_take, List.length_nil] at this; omega)]
 ·simp only [g_slices_Max_Sint_int_l0_S]
  rw [show near.length - 1 + 1 = near.length by omega, if_neg (not_lt_nat _), List.take_length]
theorem leastI_def (x y : Int) : leastI x y = if y < x then y else x := rfl
theorem mostI_def (x y : Int) : mostI x y = if x < y then y else x := rfl
theorem i_least (own id input round : Int) (near : List Int) (h : near.length < 1099511627776) : i_surroundings_extreme own id input round near (fun a0 => g_slices_Min_Sint_int a0) = some (lstV own near) := by
 unfold i_surroundings_extreme
 by_cases h0 : (near.length : Int) = 0
 ·have : near = [] := List.eq_nil_of_length_eq_zero (by omega)
  subst this; rfl
 ·rw [if_neg h0]; dsimp only; rw [min_eq own near h (by omega)]; rfl
theorem i_most (own id input round : Int) (near : List Int) (h : near.length < 1099511627776) : i_surroundings_extreme own id input round near (fun a0 => g_slices_Max_Sint_int a0) = some (gstV own near) := by
 unfold i_surroundings_extreme
 by_cases h0 : (near.length : Int) = 0
 ·have : near = [] := List.eq_nil_of_length_eq_zero (by omega)
  subst this; rfl
 ·rw [if_neg h0]; dsimp only; rw [max_eq own near h (by omega)]; rfl
theorem i_sum (near : List Int) (h : near.length < 1099511627776) : i_surroundings_leaf_l0 near (0, 0) = some (sumV near) := by
 have key := itO_for (fun v => i_surroundings_leaf_l0_S near v.1 v.2) (fun i => (sumV (near.take i), (i : Int))) near.length (sumV near) ?_ ?_
 ·exact key
 ·intro i hi
  simp only [i_surroundings_leaf_l0_S]
  rw [if_pos (lt_nat hi), ckT (ix_nat hi), Int.toNat_natCast, wrS i (by omega), getD_get _ _ hi, List.take_succ_eq_append_getElem hi, sumV_snoc]
 ·simp only [i_surroundings_leaf_l0_S]
  rw [if_neg (not_lt_nat _), List.take_length]
theorem s_look (own id input round : Int) (near : List Int) (k v : Int) (h : near.length < 1099511627776) :
  s_vaNode_vaLook_l0 own id input round near k v (own, own, 0, 0) = some (lstV own near, gstV own near, sumV near) := by
 have key := itO_for (fun x => s_vaNode_vaLook_l0_S own id input round near k v x.1 x.2.1 x.2.2.1 x.2.2.2) (fun i => (lstV own (near.take i), gstV own (near.take i), sumV (near.take i), (i : Int))) near.length (lstV own near, gstV own near, sumV near) ?_ ?_
 ·exact key
 ·intro i hi
  simp only [s_vaNode_vaLook_l0_S]
  rw [if_pos (lt_nat hi), ckT (ix_nat hi), Int.toNat_natCast, wrS i (by omega), getD_get _ _ hi, List.take_succ_eq_append_getElem hi, sumV_snoc]
  by_cases h0 : (i : Int) = 0
  ·have : i = 0 := by omega
   subst this
   rw [if_pos h0]; rfl
  ·have hne : near.take i ≠ [] := by intro hc; have := congrArg List.length hc; rw [List.length_take, List.length_nil] at this; omega
   rw [if_neg h0, lstV_snoc _ _ _ hne, gstV_snoc _ _ _ hne, leastI_def, mostI_def]
   by_cases c1 : near[i] < lstV own (near.take i)
   ·rw [if_pos c1, if_pos c1]
    by_cases c2 : gstV own (near.take i) < near[i]
    ·rw [if_pos c2, if_pos c2]
    ·rw [if_neg c2, if_neg c2]
   ·rw [if_neg c1, if_neg c1]
    by_cases c2 : gstV own (near.take i) < near[i]
    ·rw [if_pos c2, if_pos c2]
    ·rw [if_neg c2, if_neg c2]
 ·simp only [s_vaNode_vaLook_l0_S]
  rw [if_neg (not_lt_nat _), List.take_length]
/-- How many are good. -/
def cntV (near : List Int) (p : Int → Bool) : Int := ((near.filter p).length : Int)
theorem cnt_step (l : List Int) (p : Int → Bool) (x : Int) : ((l ++ [x]).filter p).length = (l.filter p).length + (if p x = true then 1 else 0) := by
 rw [List.filter_append, List.length_append]
 by_cases h : p x = true
 ·rw [if_pos h, List.filter_cons_of_pos h]; rfl
 ·rw [if_neg h, List.filter_cons_of_neg h]; rfl
theorem i_count (own id input round : Int) (near : List Int) (good : Int → Option Bool) (p : Int → Bool) (hg : ∀ x ∈ near, good x = some (p x)) (h : near.length < 1099511627776) : i_surroundings_countIf own id input round near good = some (cntV near p) := by
 have key := itO_for (fun v => i_surroundings_countIf_l0_S near good v.1 v.2) (fun i => ((((near.take i).filter p).length : Int), (i : Int))) near.length (cntV near p) ?_ ?_
 ·unfold i_surroundings_countIf i_surroundings_countIf_l0
  simp only [List.take_zero, List.filter_nil, List.length_nil, Int.natCast_zero] at key
  rw [key]; rfl
 ·intro i hi
  have hle : ((near.take i).filter p).length ≤ i := Nat.le_trans (List.length_filter_le _ _) (by simp; omega)
  simp only [i_surroundings_countIf_l0_S]
  rw [if_pos (lt_nat hi), ckT (ix_nat hi), Int.toNat_natCast, wrS i (by omega), getD_get _ _ hi, hg _ (List.getElem_mem hi), Option.bind_some, List.take_succ_eq_append_getElem hi, cnt_step]
  by_cases hp : p near[i] = true
  ·rw [if_pos hp, if_pos hp, wrS _ (by omega)]
  ·rw [if_neg hp, if_neg hp]; rfl
 ·simp only [i_surroundings_countIf_l0_S]
  rw [if_neg (not_lt_nat _), List.take_length]; rfl
theorem s_count (own id input round : Int) (near : List Int) (lo hi : Int) (h : near.length < 1099511627776) : s_vaNode_vaCount own id input round near lo hi = some (cntV near (fun y => decide (lo ≤ y) && decide (y < hi))) := by
 have key := itO_for (fun v => s_vaNode_vaCount_l0_S near lo hi v.1 v.2) (fun i => ((((near.take i).filter (fun y => decide (lo ≤ y) && decide (y < hi))).length : Int), (i : Int))) near.length (cntV near (fun y => decide (lo ≤ y) && decide (y < hi))) ?_ ?_
 ·unfold s_vaNode_vaCount s_vaNode_vaCount_l0
  simp only [List.take_zero, List.filter_nil, List.length_nil, Int.natCast_zero] at key
  rw [key]; rfl
 ·intro i hi'
  have hle : ((near.take i).filter (fun y => decide (lo ≤ y) && decide (y < hi))).length ≤ i := Nat.le_trans (List.length_filter_le _ _) (by simp; omega)
  simp only [s_vaNode_vaCount_l0_S]
  rw [if_pos (lt_nat hi'), ckT (ix_nat hi'), Int.toNat_natCast, wrS i (by omega), getD_get _ _ hi', List.take_succ_eq_append_getElem hi', cnt_step]
  by_cases c1 : lo ≤ near[i]
  ·rw [if_pos c1]
   by_cases c2 : near[i] < hi
   ·rw [if_pos c2, wrS _ (by omega), decide_eq_true c1, decide_eq_true c2]; rfl
   ·rw [if_neg c2, decide_eq_true c1, decide_eq_false c2]; rfl
  ·rw [if_neg c1, decide_eq_false c1]; rfl
 ·simp only [s_vaNode_vaCount_l0_S]
  rw [if_neg (not_lt_nat _), List.take_length]; rfl
theorem free_ex (own id input round : Int) (near : List Int) (h : near.length < 1099511627776) (hr : ∀ x ∈ near, -1000000 ≤ x ∧ x ≤ 1000000) : ∀ (n m : Nat), n + m = 1000001 → ∃ r, i_surroundings_free_l0 own id input round near (m : Int) = some r := by
 intro n
 induction n with
 | zero =>
  intro m hm
  refine ⟨(m : Int), ?_⟩
  unfold i_surroundings_free_l0
  refine itO_inr ?_
  simp only [i_surroundings_free_l0_S]
  rw [ckT h, if_neg]
  intro hc
  have := hr _ (List.contains_iff_mem.1 hc)
  omega
 | succ n ih =>
  intro m hm
  unfold i_surroundings_free_l0 at ih ⊢
  by_cases hc : near.contains (m : Int) = true
  ·obtain ⟨r, e⟩ := ih (m + 1) (by omega)
   refine ⟨r, ?_⟩
   rw [itO_inl (s' := ((m + 1 : Nat) : Int))]
   ·exact e
   ·simp only [i_surroundings_free_l0_S]
    rw [ckT h, if_pos hc, wrS m (by omega)]
  ·refine ⟨(m : Int), itO_inr ?_⟩
   simp only [i_surroundings_free_l0_S]
   rw [ckT h, if_neg hc]
theorem free_same (own id input round : Int) (near : List Int) : s_vaNode_vaLook_l1 own id input round near = i_surroundings_free_l0 own id input round near := rfl
/-- A value, cut to the range of values. -/
def clipV (y : Int) : Int := leastI (mostI y (-1000000)) 1000000
theorem clip_in (y : Int) : -1000000 ≤ clipV y ∧ clipV y ≤ 1000000 := by
 unfold clipV leastI mostI
 split <;> split at * <;> omega
theorem s_clip_eq (y : Int) : s_vaClip y = some (clipV y) := by
 unfold s_vaClip s_l1Least s_l1Most clipV leastI mostI
 by_cases c1 : y < 1000000
 ·rw [if_pos c1, Option.bind_some]
  by_cases c2 : y < -1000000
  ·rw [if_pos c2, if_pos c2]; rfl
  ·rw [if_neg c2, if_neg c2, if_neg (by omega)]; rfl
 ·have c2 : ¬ y < -1000000 := by omega
  have c4 : ¬ (1000000 : Int) < -1000000 := by omega
  rw [if_neg c1, Option.bind_some, if_neg c4, if_neg c2]
  by_cases c3 : 1000000 < y
  ·rw [if_pos c3]; rfl
  ·rw [if_neg c3]
   have : y = 1000000 := by omega
   subst this; rfl
/-- What the reference's operation finds. -/
noncomputable def sOp (own id input round : Int) (near : List Int) (k v : Int) (t : List Int) : Option Int :=
 if (t.length : Int) = 0 then s_vaNode_vaLook own id input round near k v
 else if k = 11 then ck (0 < t.length) <| s_vaNode_vaCount own id input round near (t.getD 0 default) (IntKind.i64.wrap ((t.getD 0 default) + 1))
 else if k = 12 then ck (0 < t.length) <| s_vaNode_vaCount own id input round near (-1000000 : Int) (t.getD 0 default)
 else if (t.length : Int) = 2 then ck (0 < t.length) <| ck (1 < t.length) <| s_vaTwo k (t.getD 0 default) (t.getD 1 default)
 else ck (0 < t.length) <| if 0 < t.getD 0 default then ck (1 < t.length) <| some (t.getD 1 default) else ck (2 < t.length) <| some (t.getD 2 default)
theorem opBoth (own id input round : Int) (near : List Int) (k v : Int) (t : List Int) (hk : 1 ≤ k ∧ k ≤ 19) (hv : k ≠ 1 → v = 0) (ht : t.length = nd k) (hr : ∀ x ∈ t, -1000000 ≤ x ∧ x ≤ 1000000)
  (hl : near.length < 1099511627776) (hn : ∀ x ∈ near, -1000000 ≤ x ∧ x ≤ 1000000) : ∃ y, i_surroundings_result own id input round near k v t = some y ∧ sOp own id input round near k v t = some y := by
 obtain ⟨q, hq⟩ := free_ex own id input round near hl hn 1000001 0 rfl
 rw [Int.natCast_zero] at hq
 have hq' : s_vaNode_vaLook_l1 own id input round near 0 = some q := by rw [free_same]; exact hq
 have hlook := s_look own id input round near k v hl
 have hl7 := i_least own id input round near hl
 have hl8 := i_most own id input round near hl
 have hl9 := i_sum near hl
 by_cases h10 : k ≤ 10
 ·have h0 : t = [] := List.eq_nil_of_length_eq_zero (by rw [ht]; unfold nd; rw [if_pos h10])
  subst h0
  have hs : sOp own id input round near k v [] = s_vaNode_vaLook own id input round near k v := rfl
  rw [hs]
  unfold s_vaNode_vaLook i_surroundings_result i_surroundings_leaf i_surroundings_free
  rw [hlook, if_neg (by omega), if_neg (by omega), if_neg (by omega), if_neg (by omega), if_neg (by omega), if_neg (by omega), if_neg (by omega), if_neg (by omega), if_neg (by omega)]
  simp only [Option.bind_some, hl7, hl8, hl9, hq, hq']
  have : k = 1 ∨ k = 2 ∨ k = 3 ∨ k = 4 ∨ k = 5 ∨ k = 6 ∨ k = 7 ∨ k = 8 ∨ k = 9 ∨ k = 10 := by omega
  rcases this with rfl | rfl | rfl | rfl | rfl | rfl | rfl | rfl | rfl | rfl <;> simp
 ·by_cases h12 : k ≤ 12
  ·have h1 : t.length = 1 := by rw [ht]; unfold nd; rw [if_neg h10, if_pos h12]
   match t, h1, hr with
   | [a], _, hr =>
    have ha := hr a (by simp)
    have c1 : (1 : Int) ≠ 0 := by decide
    have : k = 11 ∨ k = 12 := by omega
    rcases this with rfl | rfl
    ·refine ⟨cntV near (fun y => decide (y = a)), ?_, ?_⟩
     ·unfold i_surroundings_result
      rw [if_pos rfl, i_count own id input round near (fun a0 => i_surroundings_result_1 a0 [a]) (fun y => decide (y = a)) (fun x _ => rfl) hl]; rfl
     ·unfold sOp
      rw [if_neg (by simp), if_pos rfl, ckT (by simp), s_count _ _ _ _ _ _ _ hl]
      simp only [List.getD_cons_zero]
      rw [wr64 _ (by omega)]
      unfold cntV
      congr 3
      refine List.filter_congr fun y _ => ?_
      rw [Bool.eq_iff_iff]
      simp only [Bool.and_eq_true, decide_eq_true_eq]
      omega
    ·refine ⟨cntV near (fun y => decide (y < a)), ?_, ?_⟩
     ·unfold i_surroundings_result
      rw [if_neg (by decide), if_pos rfl, i_count own id input round near (fun a0 => i_surroundings_result_2 a0 [a]) (fun y => decide (y < a)) (fun x _ => rfl) hl]; rfl
     ·unfold sOp
      rw [if_neg (by simp), if_neg (by decide), if_pos rfl, ckT (by simp), s_count _ _ _ _ _ _ _ hl]
      simp only [List.getD_cons_zero]
      unfold cntV
      congr 3
      refine List.filter_congr fun y hy => ?_
      have := hn y hy
      rw [Bool.eq_iff_iff]
      simp only [Bool.and_eq_true, decide_eq_true_eq]
      omega
  ·by_cases h18 : k ≤ 18
   ·have h2 : t.length = 2 := by rw [ht]; unfold nd; rw [if_neg h10, if_neg h12, if_pos h18]
    match t, h2, hr with
    | [a, b], _, hr =>
     have hs : sOp own id input round near k v [a, b] = s_vaTwo k a b := by
      unfold sOp
      rw [if_neg (by simp), if_neg (by omega), if_neg (by omega), if_pos (by simp), ckT (by simp), ckT (by simp)]; rfl
     rw [hs]
     unfold i_surroundings_result s_vaTwo s_l1Least s_l1Most s_vaIs i_oneIf
     have : k = 13 ∨ k = 14 ∨ k = 15 ∨ k = 16 ∨ k = 17 ∨ k = 18 := by omega
     have e0 : [a, b].getD 0 default = a := rfl
     have e1 : [a, b].getD 1 default = b := rfl
     have l0 : 0 < [a, b].length := by simp
     have l1 : 1 < [a, b].length := by simp
     rw [e0, e1]
     simp only [ckT l0, ckT l1]
     rcases this with rfl | rfl | rfl | rfl | rfl | rfl
     ·simp
     ·simp
     ·refine ⟨leastI a b, by simp, ?_⟩
      unfold leastI
      by_cases c : a < b
      ·rw [if_neg (by decide), if_neg (by decide), if_pos rfl, if_pos c, if_neg (by omega)]; rfl
      ·rw [if_neg (by decide), if_neg (by decide), if_pos rfl, if_neg c]
       by_cases c2 : b < a
       ·rw [if_pos c2]; rfl
       ·rw [if_neg c2]
        have : a = b := by omega
        subst this; rfl
     ·refine ⟨mostI a b, by simp, ?_⟩
      unfold mostI
      by_cases c : b < a
      ·rw [if_neg (by decide), if_neg (by decide), if_neg (by decide), if_pos rfl, if_pos c, if_neg (by omega)]; rfl
      ·rw [if_neg (by decide), if_neg (by decide), if_neg (by decide), if_pos rfl, if_neg c]
       by_cases c2 : a < b
       ·rw [if_pos c2]; rfl
       ·rw [if_neg c2]
        have : a = b := by omega
        subst this; rfl
     ·by_cases c : a < b
      ·refine ⟨1, by simp [c], by simp [c]⟩
      ·refine ⟨0, by simp [c], by simp [c]⟩
     ·by_cases c : a = b
      ·refine ⟨1, by simp [c], by simp [c]⟩
      ·refine ⟨0, by simp [c], by simp [c]⟩
   ·have h3 : t.length = 3 := by rw [ht]; unfold nd; rw [if_neg h10, if_neg h12, if_neg h18]
    have : k = 19 := by omega
    subst this
    match t, h3, hr with
    | [a, b, c], _, hr =>
     unfold i_surroundings_result sOp
     have e0 : [a, b, c].getD 0 default = a := rfl
     have e1 : [a, b, c].getD 1 default = b := rfl
     have e2 : [a, b, c].getD 2 default = c := rfl
     have l0 : 0 < [a, b, c].length := by simp
     have l1 : 1 < [a, b, c].length := by simp
     have l2 : 2 < [a, b, c].length := by simp
     rw [e0, e1, e2]
     simp only [ckT l0, ckT l1, ckT l2]
     by_cases ca : 0 < a
     ·refine ⟨b, by simp [ca], by simp [ca]⟩
     ·refine ⟨c, by simp [ca], by simp [ca]⟩

end Go.Proofs.YtjkgcfdcfjkkbaaGreat
