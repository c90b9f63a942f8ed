/- Valid value programs: program and reference agree. Conditions: none. -/
import Derived.Test.YtaogbcdlpgfplaaDoorL6
import Derived.Test.YtaogbcdlpgfplaaDoorTxV
namespace Go.Proofs.YtaogbcdlpgfplaaDoor
open Go Dv
set_option linter.unusedSimpArgs false
set_option linter.unusedVariables false
set_option maxRecDepth 100000


/-- How many values an operation takes. -/
def nd (k : Int) : Nat := if k ≤ 10 then 0 else if k ≤ 12 then 1 else if k ≤ 18 then 2 else 3
theorem nd_le (k : Int) : nd k ≤ 3 := by unfold nd; split <;> (try split) <;> (try split) <;> omega
theorem i_needs_eq (k v : Int) : i_ValueOp_needs k v = some (nd k : Int) := by
 unfold i_ValueOp_needs nd
 by_cases h1 : k ≤ 10
 ·rw [if_pos h1, if_pos h1]; rfl
 ·rw [if_neg h1, if_neg h1]
  by_cases h2 : k ≤ 12
  ·rw [if_pos h2, if_pos h2]; rfl
  ·rw [if_neg h2, if_neg h2]
   by_cases h3 : k ≤ 18
   ·rw [if_pos h3, if_pos h3]; rfl
   ·rw [if_neg h3, if_neg h3]; rfl
theorem s_needs_eq (k : Int) (h : k ≤ 19) : s_vaNeeds k = some (nd k : Int) := by
 unfold s_vaNeeds nd
 by_cases h1 : k = 19
 ·subst h1; rfl
 ·rw [if_neg h1]
  by_cases h2 : 13 ≤ k
  ·rw [if_pos h2, if_neg (by omega), if_neg (by omega), if_pos (by omega)]; rfl
  ·rw [if_neg h2]
   by_cases h3 : 11 ≤ k
   ·rw [if_pos h3, if_neg (by omega), if_pos (by omega)]; rfl
   ·rw [if_neg h3, if_pos (by omega)]; rfl
/-- An operation of a program. -/
def okOp (k v : Int) : Bool := inR k 1 19 && inR v 0 (if k = 1 then 1000000 else 0)
/-- How many values lie on the stack behind a program. -/
def hts : List (Int × Int) → Nat → Option Nat
 | [], h => some h
 | q :: r, h => if okOp q.1 q.2 = true ∧ nd q.1 ≤ h then hts r (h - nd q.1 + 1) else none
/-- A valid program. -/
def progB (prog : List (Int × Int)) : Bool := inR prog.length 1 40 && (hts prog 0 == some 1)
theorem i_good_step (prog : List (Int × Int)) (h t : Nat) (hl : prog.length < 1000) (hh : h ≤ 1000) (ht : t < prog.length) : i_IsValueProgram_l0_S prog (h : Int) (t : Int) =
  some (if okOp prog[t].1 prog[t].2 = true ∧ nd prog[t].1 ≤ h then .inl (((h - nd prog[t].1 + 1 : Nat) : Int), ((t + 1 : Nat) : Int)) else .inr (.inl ())) := by
 have hn := nd_le prog[t].1
 have tail : (if (h : Int) < (nd prog[t].1 : Int) then some (Sum.inr (Sum.inl ())) else some (Sum.inl (IntKind.i64.wrap ((h : Int) + (IntKind.i64.wrap (1 - (nd prog[t].1 : Int)))), IntKind.i64.wrap ((t : Int) + 1))) : Option ((Int × Int) ⊕ (Unit ⊕ Int))) =
   some (if nd prog[t].1 ≤ h then .inl (((h - nd prog[t].1 + 1 : Nat) : Int), ((t + 1 : Nat) : Int)) else .inr (.inl ())) := by
  by_cases hc : nd prog[t].1 ≤ h
  ·rw [if_neg (by omega), if_pos hc, wr64 (1 - (nd prog[t].1 : Int)) (by omega), wr64 _ (by omega), wrS t (by omega)]
   congr 3; omega
  ·rw [if_pos (by omega), if_neg hc]
 simp only [i_IsValueProgram_l0_S]
 rw [if_pos (lt_nat ht), ckT (ix_nat ht), Int.toNat_natCast]
 unfold fstD sndD
 rw [getD_get _ _ ht]
 unfold okOp
 by_cases hk : prog[t].1 = 1
 ·rw [if_pos hk, if_pos hk]
  by_cases c1 : inR prog[t].1 1 19 = true
  ·by_cases c2 : inR prog[t].2 0 1000000 = true
   ·rw [if_pos c1, if_pos c2, i_needs_eq, Option.bind_some, tail, c1, c2]
    simp
   ·rw [if_pos c1, if_neg c2, Bool.eq_false_iff.2 c2]; simp
  ·rw [if_neg c1, Bool.eq_false_iff.2 c1]; simp
 ·rw [if_neg hk, if_neg hk]
  by_cases c1 : inR prog[t].1 1 19 = true
  ·by_cases c2 : inR prog[t].2 0 0 = true
   ·rw [if_pos c1, if_pos c2, i_needs_eq, Option.bind_some, tail, c1, c2]
    simp
   ·rw [if_pos c1, if_neg c2, Bool.eq_false_iff.2 c2]; simp
  ·rw [if_neg c1, Bool.eq_false_iff.2 c1]; simp
theorem s_good_step (prog : List (Int × Int)) (h t : Nat) (hl : prog.length < 1000) (hh : h ≤ 1000) (ht : t < prog.length) : s_vaGood_l0_S prog (h : Int) (t : Int) =
  some (if okOp prog[t].1 prog[t].2 = true ∧ nd prog[t].1 ≤ h then .inl (((h - nd prog[t].1 + 1 : Nat) : Int), ((t + 1 : Nat) : Int)) else .inr (.inl ())) := by
 have hn := nd_le prog[t].1
 have tail : (if (h : Int) < (nd prog[t].1 : Int) then some (Sum.inr (Sum.inl ())) else some (Sum.inl (IntKind.i64.wrap ((h : Int) + (IntKind.i64.wrap (1 - (nd prog[t].1 : Int)))), IntKind.i64.wrap ((t : Int) + 1))) : Option ((Int × Int) ⊕ (Unit ⊕ Int))) =
   some (if nd prog[t].1 ≤ h then .inl (((h - nd prog[t].1 + 1 : Nat) : Int), ((t + 1 : Nat) : Int)) else .inr (.inl ())) := by
  by_cases hc : nd prog[t].1 ≤ h
  ·rw [if_neg (by omega), if_pos hc, wr64 (1 - (nd prog[t].1 : Int)) (by omega), wr64 _ (by omega), wrS t (by omega)]
   congr 3; omega
  ·rw [if_pos (by omega), if_neg hc]
 simp only [s_vaGood_l0_S]
 rw [if_pos (lt_nat ht), ckT (ix_nat ht), Int.toNat_natCast]
 unfold fstD sndD
 rw [getD_get _ _ ht]
 unfold okOp
 by_cases c1 : inR prog[t].1 1 19 = true
 ·have c1' := inR_iff.1 c1
  rw [if_pos c1]
  by_cases c2 : inR prog[t].2 0 1000000 = true
  ·rw [if_pos c2]
   have c2' := inR_iff.1 c2
   by_cases hk : prog[t].1 = 1
   ·rw [if_pos hk, if_pos hk, s_needs_eq _ c1'.2, Option.bind_some, tail, c1, c2]
    simp
   ·rw [if_neg hk, if_neg hk]
    by_cases h0 : prog[t].2 = 0
    ·rw [if_pos h0, s_needs_eq _ c1'.2, Option.bind_some, tail, c1]
     have : inR prog[t].2 0 0 = true := inR_iff.2 (by omega)
     rw [this]; simp
    ·have : inR prog[t].2 0 0 = false := Bool.eq_false_iff.2 fun h => h0 (by have := inR_iff.1 h; omega)
     rw [if_neg h0, this]; simp
  ·rw [if_neg c2]
   have : inR prog[t].2 0 (if prog[t].1 = 1 then 1000000 else 0) = false := Bool.eq_false_iff.2 fun h => c2 (by
    have := inR_iff.1 h
    refine inR_iff.2 ⟨this.1, ?_⟩
    split at this <;> omega)
   rw [this]; simp
 ·rw [if_neg c1, Bool.eq_false_iff.2 c1]; simp
theorem good_loop (f : Int × Int → Option ((Int × Int) ⊕ (Unit ⊕ Int))) (prog : List (Int × Int)) (hl : prog.length < 500)
  (hf : ∀ h t : Nat, h ≤ 1000 → ∀ ht : t < prog.length, f ((h : Int), (t : Int)) = some (if okOp prog[t].1 prog[t].2 = true ∧ nd prog[t].1 ≤ h then .inl (((h - nd prog[t].1 + 1 : Nat) : Int), ((t + 1 : Nat) : Int)) else .inr (.inl ())))
  (he : ∀ h : Nat, f ((h : Int), (prog.length : Int)) = some (.inr (.inr (h : Int)))) :
  ∀ (n t h : Nat), n = prog.length - t → t ≤ prog.length → h ≤ t → itO f ((h : Int), (t : Int)) = some (match hts (prog.drop t) h with | some q => .inr (q : Int) | none => .inl ()) := by
 intro n
 induction n with
 | zero =>
  intro t h hn ht hh
  have : t = prog.length := by omega
  subst this
  rw [itO_inr (he h), List.drop_length]; rfl
 | succ n ih =>
  intro t h hn ht hh
  have hlt : t < prog.length := by omega
  have h1 := hf h t (by omega) hlt
  rw [List.drop_eq_getElem_cons hlt]
  unfold hts
  by_cases hc : okOp prog[t].1 prog[t].2 = true ∧ nd prog[t].1 ≤ h
  ·rw [if_pos hc] at h1
   rw [itO_inl h1, if_pos hc]
   exact ih (t + 1) _ (by omega) (by omega) (by omega)
  ·rw [if_neg hc] at h1
   rw [itO_inr h1, if_neg hc]
theorem fin_good (o : Option Nat) : ((some (match o with | some q => Sum.inr (q : Int) | none => Sum.inl ()) : Option (Unit ⊕ Int)).bind fun r4_ => match r4_ with | .inl q4_ => some false | .inr q4_ => some (decide (q4_ = 1))) = some (o == some 1) := by
 cases o with
 | none => rfl
 | some q =>
  simp only [Option.bind_some]
  congr 1
  rw [Bool.eq_iff_iff]
  simp
  omega
theorem i_prog_eq (prog : List (Int × Int)) : i_IsValueProgram prog = some (progB prog) := by
 unfold i_IsValueProgram progB
 by_cases h : inR prog.length 1 40 = true
 ·have h' := inR_iff.1 h
  rw [if_pos h, h, Bool.true_and]
  have := good_loop (fun v => i_IsValueProgram_l0_S prog v.1 v.2) prog (by omega) (fun h t hh ht => i_good_step prog h t (by omega) hh ht) (fun h => by
   simp only [i_IsValueProgram_l0_S]; rw [if_neg (not_lt_nat _)]) prog.length 0 0 rfl (Nat.zero_le _) (Nat.le_refl _)
  rw [List.drop_zero] at this
  unfold i_IsValueProgram_l0
  rw [Int.natCast_zero] at this
  rw [this]
  exact fin_good _
 ·rw [if_neg h, Bool.eq_false_iff.2 h]; rfl
theorem s_prog_eq (prog : List (Int × Int)) : s_vaGood prog = some (progB prog) := by
 unfold s_vaGood progB
 by_cases h : inR prog.length 1 40 = true
 ·have h' := inR_iff.1 h
  rw [if_pos h, h, Bool.true_and]
  have := good_loop (fun v => s_vaGood_l0_S prog v.1 v.2) prog (by omega) (fun h t hh ht => s_good_step prog h t (by omega) hh ht) (fun h => by
   simp only [s_vaGood_l0_S]; rw [if_neg (not_lt_nat _)]) prog.length 0 0 rfl (Nat.zero_le _) (Nat.le_refl _)
  rw [List.drop_zero] at this
  unfold s_vaGood_l0
  rw [Int.natCast_zero] at this
  rw [this]
  exact fin_good _
 ·rw [if_neg h, Bool.eq_false_iff.2 h]; rfl


end Go.Proofs.YtaogbcdlpgfplaaDoor
