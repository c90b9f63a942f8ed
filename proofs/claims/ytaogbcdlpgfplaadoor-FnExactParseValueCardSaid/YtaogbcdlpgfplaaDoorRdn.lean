/- Numbers read from texts. Conditions: those in each lemma. -/
import Derived.Test.YtaogbcdlpgfplaaDoorL6
import Derived.Test.YtaogbcdlpgfplaaDoorTxn
import Derived.Test.YtaogbcdlpgfplaaDoorSpl
namespace Go.Proofs.YtaogbcdlpgfplaaDoor
open Go Dv
set_option linter.unusedSimpArgs false
set_option linter.unusedVariables false
set_option maxRecDepth 100000


/-- The number that digits spell behind another one. -/
def spell : Nat → List UInt8 → Option Nat
 | a, [] => some a
 | a, c :: r => if 48 ≤ c.toNat ∧ c.toNat ≤ 57 then spell (a * 10 + (c.toNat - 48)) r else none
theorem spell_cons (a : Nat) (c : UInt8) (r : List UInt8) : spell a (c :: r) = if 48 ≤ c.toNat ∧ c.toNat ≤ 57 then spell (a * 10 + (c.toNat - 48)) r else none := rfl
theorem spell_app (r : List UInt8) : ∀ (l : List UInt8) (a : Nat), spell a (l ++ r) = (spell a l).bind fun b => spell b r
 | [], a => rfl
 | c :: l, a => by
  rw [List.cons_append, spell_cons, spell_cons]
  by_cases h : 48 ≤ c.toNat ∧ c.toNat ≤ 57
  ·rw [if_pos h, if_pos h, spell_app r l]
  ·rw [if_neg h, if_neg h]; rfl
theorem dig_nat {k : Nat} (h : k < 10) : (UInt8.ofNat (48 + k)).toNat = 48 + k := by
 rw [UInt8.toNat_ofNat']; omega
theorem spell_one {a k : Nat} (h : k < 10) : spell a [UInt8.ofNat (48 + k)] = some (a * 10 + k) := by
 unfold spell
 rw [dig_nat h, if_pos (by omega), show 48 + k - 48 = k by omega]; rfl
theorem spell_digs (n : Nat) : spell 0 (digs n) = some n := by
 induction n using Nat.strongRecOn with
 | _ n ih =>
  by_cases h : n < 10
  ·rw [digs_lt h, spell_one h]; simp
  ·rw [digs_ge h, spell_app, ih (n / 10) (by omega), Option.bind_some, spell_one (Nat.mod_lt _ (by decide))]
   congr 1; omega
theorem digs_ne (n : Nat) : digs n ≠ [] := by
 by_cases h : n < 10
 ·rw [digs_lt h]; simp
 ·rw [digs_ge h]; simp
/-- The first letter of a number. -/
theorem digs_head (n : Nat) : ∃ k, k < 10 ∧ (digs n).head? = some (UInt8.ofNat (48 + k)) ∧ (k = 0 → n = 0) := by
 induction n using Nat.strongRecOn with
 | _ n ih =>
  by_cases h : n < 10
  ·exact ⟨n, h, by rw [digs_lt h]; rfl, id⟩
  ·obtain ⟨k, h1, h2, h3⟩ := ih (n / 10) (by omega)
   refine ⟨k, h1, ?_, fun e => ?_⟩
   ·rw [digs_ge h, List.head?_append, h2]; rfl
   ·have := h3 e; omega
theorem spell_le : ∀ (l : List UInt8) (a n : Nat), spell a l = some n → a ≤ n
 | [], a, n, h => by unfold spell at h; injection h with h; omega
 | c :: r, a, n, h => by
  unfold spell at h
  split at h
  ·have := spell_le r _ n h; omega
  ·cases h
theorem spell_lt : ∀ (l : List UInt8) (a n : Nat), spell a l = some n → n < (a + 1) * 10 ^ l.length
 | [], a, n, h => by unfold spell at h; injection h with h; simp; omega
 | c :: r, a, n, h => by
  unfold spell at h
  split at h
  ·have h1 := spell_lt r _ n h
   rw [List.length_cons, Nat.pow_succ, Nat.mul_comm (10 ^ r.length) 10, ← Nat.mul_assoc]
   exact Nat.lt_of_lt_of_le h1 (Nat.mul_le_mul_right _ (by omega))
  ·cases h
/-- A text that spells a number without a nought ahead is the number's text. -/
theorem spell_canon : ∀ (m : Nat) (l : List UInt8) (n : Nat), l.length = m → l ≠ [] → (l.head? = some 48 → l.length = 1) → spell 0 l = some n → l = digs n
 | 0, l, n, hm, hne, _, _ => absurd (List.eq_nil_of_length_eq_zero hm) hne
 | m + 1, l, n, hm, hne, hc, hs => by
  have el := List.dropLast_concat_getLast hne
  generalize hx : l.getLast hne = x at el
  generalize hd : l.dropLast = d at el
  have hdl : d.length = m := by rw [← hd, List.length_dropLast]; omega
  rw [← el, spell_app] at hs
  cases e : spell 0 d with
  | none => rw [e] at hs; cases hs
  | some b =>
   rw [e, Option.bind_some] at hs
   unfold spell at hs
   split at hs
   ·rename_i hx
    unfold spell at hs
    injection hs with hs
    have ex : x = UInt8.ofNat (48 + (x.toNat - 48)) := UInt8.toNat_inj.1 (by rw [dig_nat (by omega)]; omega)
    by_cases h0 : d = []
    ·subst h0
     unfold spell at e
     injection e with e
     rw [← el, digs_lt (by omega), List.nil_append]
     congr 1
     rw [ex]
     congr 1
     omega
    ·have hhead : l.head? = d.head? := by
      rw [← el]
      cases d with
      | nil => exact absurd rfl h0
      | cons y t => rfl
     have hlen : 1 ≤ d.length := by
      cases d with
      | nil => exact absurd rfl h0
      | cons y t => simp
     have h48 : ¬ d.head? = some 48 := fun e => by have := hc (hhead.trans e); omega
     have ih := spell_canon m d b hdl h0 (fun e => absurd e h48) e
     have hb : b ≠ 0 := fun e0 => by
      subst e0
      rw [digs_lt (by decide)] at ih
      exact h48 (by rw [ih]; rfl)
     rw [← el, digs_ge (by omega), ih]
     congr 1
     ·congr 1; omega
     ·congr 1
      rw [ex]; congr 1; omega
   ·cases hs
theorem canon_digs (n : Nat) : (digs n).head? = some 48 → (digs n).length = 1 := fun h => by
 obtain ⟨k, h1, h2, h3⟩ := digs_head n
 rw [h2] at h
 injection h with h
 have h4 := congrArg UInt8.toNat h
 rw [dig_nat h1] at h4
 have : k = 0 := by have : (48 : UInt8).toNat = 48 := rfl; omega
 rw [h3 this, digs_lt (by decide)]; rfl
/-- A number of at most 6 digits. -/
def readD (l : List UInt8) : Option Nat := if l ≠ [] ∧ l.length ≤ 6 ∧ (l.head? = some 48 → l.length = 1) then spell 0 l else none
theorem readD_iff (l : List UInt8) (n : Nat) : readD l = some n ↔ n < 1000000 ∧ l = digs n := by
 unfold readD
 constructor
 ·intro h
  split at h
  ·rename_i hc
   have e := spell_canon _ l n rfl hc.1 hc.2.2 h
   refine ⟨?_, e⟩
   have h1 := spell_lt l 0 n h
   have h2 : 10 ^ l.length ≤ 10 ^ 6 := Nat.pow_le_pow_right (by decide) hc.2.1
   have h3 : (10 : Nat) ^ 6 = 1000000 := by decide
   omega
  ·cases h
 ·rintro ⟨h, rfl⟩
  rw [if_pos ⟨digs_ne n, digs_len 5 n (by have h3 : (10 : Nat) ^ 6 = 1000000 := (by decide); omega), canon_digs n⟩, spell_digs]
theorem readD_digs {n : Nat} (h : n < 1000000) : readD (digs n) = some n := (readD_iff _ _).2 ⟨h, rfl⟩
theorem parse_spell : ∀ (l : List UInt8) (a n : Nat), spell a l = some n → n < 18446744073709551616 → Lib.parseUint10 a l = .ok n
 | [], a, n, h, _ => by unfold spell at h; injection h with h; subst h; rfl
 | c :: r, a, n, h, hn => by
  unfold spell at h
  split at h
  ·rename_i hc
   have := spell_le r _ n h
   unfold Lib.parseUint10
   rw [if_pos hc, if_neg (by omega), if_neg (by omega)]
   exact parse_spell r _ n h hn
  ·cases h
theorem mag_digs {n : Nat} (h : n < 18446744073709551616) : Lib.parseMag (digs n) = .ok n := by
 unfold Lib.parseMag
 rw [if_neg (digs_ne n)]
 exact parse_spell _ _ _ (spell_digs n) h
/-- A number's text is read as the number. -/
theorem atoi_itoa {n : Int} (h : -9223372036854775808 ≤ n ∧ n ≤ 9223372036854775807) : Lib.atoiAll (Lib.itoa n) = .ok n := by
 by_cases c : n < 0
 ·have e : Lib.itoa n = 45 :: digs n.natAbs := by unfold Lib.itoa digs; rw [if_pos c]
  rw [e]
  unfold Lib.atoiAll
  have e45 : (45 : UInt8).toNat = 45 := rfl
  simp only [e45, or_true, if_true]
  rw [mag_digs (by omega)]
  simp only [not_true, false_and, if_false, true_and]
  rw [if_neg (by omega)]
  congr 1; omega
 ·have e : Lib.itoa n = digs n.toNat := by unfold Lib.itoa digs; rw [if_neg c]
  obtain ⟨k, h1, h2, h3⟩ := digs_head n.toNat
  have hm := mag_digs (n := n.toNat) (by omega)
  rw [e]
  generalize hl : digs n.toNat = l at h2 hm
  cases l with
  | nil => cases h2
  | cons x r =>
   have ex : x = UInt8.ofNat (48 + k) := by simpa using h2
   have en : x.toNat = 48 + k := by rw [ex, dig_nat h1]
   unfold Lib.atoiAll
   have q1 : ¬ (x.toNat = 43 ∨ x.toNat = 45) := by omega
   have q2 : ¬ x.toNat = 45 := by omega
   have q3 : ¬ x.toNat = 43 := by omega
   simp only [q2, q3, or_self, not_false_eq_true, true_and, false_and, if_false, hm]
   rw [if_neg (by omega)]
   congr 1; omega
theorem atoi_range {l : List UInt8} {n : Int} (h : Lib.atoiAll l = .ok n) : -9223372036854775808 ≤ n ∧ n ≤ 9223372036854775807 := by
 unfold Lib.atoiAll at h
 split at h
 ·cases h
 ·simp only at h
  split at h
  ·cases h
  ·cases h
  ·split at h
   ·cases h
   ·split at h
    ·cases h
    ·injection h with h
     split at h <;> omega
/-- What the library reads: a number's own text, or something else. -/
theorem atoi_cases (w : ByteArray) (hw : w.size ≤ 281474976710656) :
  (∃ n : Int, (-9223372036854775808 ≤ n ∧ n ≤ 9223372036854775807) ∧ w = itoaB n ∧ atoiF w = some (.inl n)) ∨
  ((∀ n : Int, (-9223372036854775808 ≤ n ∧ n ≤ 9223372036854775807) → w ≠ itoaB n) ∧ ((∃ q : Int, atoiF w = some (.inl q) ∧ (-9223372036854775808 ≤ q ∧ q ≤ 9223372036854775807) ∧ itoaB q ≠ w) ∨ ∃ q, atoiF w = some (.inr q))) := by
 by_cases h : ∃ n : Int, (-9223372036854775808 ≤ n ∧ n ≤ 9223372036854775807) ∧ w = itoaB n
 ·obtain ⟨n, h1, h2⟩ := h
  refine .inl ⟨n, h1, h2, ?_⟩
  have : Lib.atoiAll w.data.toList = .ok n := by rw [h2]; exact atoi_itoa h1
  unfold atoiF atoiR
  rw [if_pos hw, this]
 ·refine .inr ⟨fun n h1 h2 => h ⟨n, h1, h2⟩, ?_⟩
  unfold atoiF atoiR
  rw [if_pos hw]
  match e : Lib.atoiAll w.data.toList with
  | .ok v => exact .inl ⟨v, rfl, atoi_range e, fun e2 => h ⟨v, atoi_range e, e2.symm⟩⟩
  | Lib.NumEnd.syntax => exact .inr ⟨_, rfl⟩
  | .range => exact .inr ⟨_, rfl⟩

end Go.Proofs.YtaogbcdlpgfplaaDoor
