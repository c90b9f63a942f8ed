/- Texts as lists of bytes; numbers and lines. Conditions: those in each lemma. -/
import Derived.Test.YtaogbcdlpgfplaaDoorL6
import Derived.Test.YtaogbcdlpgfplaaDoorTxA
namespace Go.Proofs.YtaogbcdlpgfplaaDoor
open Go Dv
set_option linter.unusedSimpArgs false
set_option linter.unusedVariables false
set_option maxRecDepth 100000


abbrev BL (b : ByteArray) : List UInt8 := b.data.toList
def mkB (l : List UInt8) : ByteArray := ⟨l.toArray⟩
theorem BL_mk (l : List UInt8) : BL (mkB l) = l := rfl
theorem mk_BL (b : ByteArray) : mkB (BL b) = b := by cases b; simp [mkB]
theorem BL_app (a b : ByteArray) : BL (a ++ b) = BL a ++ BL b := by simp [ByteArray.data_append]
theorem size_BL (b : ByteArray) : b.size = (BL b).length := by simp
theorem BL_inj {a b : ByteArray} (h : BL a = BL b) : a = b := by rw [← mk_BL a, ← mk_BL b, h]
theorem mk_app (a b : List UInt8) : mkB a ++ mkB b = mkB (a ++ b) := BL_inj (by rw [BL_app]; rfl)
theorem size_mk (l : List UInt8) : (mkB l).size = l.length := by rw [size_BL]; rfl
theorem eq_bytes (a b : ByteArray) : (a.toList == b.toList) = decide (a = b) := by
 rw [ByteArray.toList_eq, ByteArray.toList_eq, Bool.eq_iff_iff, beq_iff_eq, decide_eq_true_eq]
 exact ⟨BL_inj, fun h => by rw [h]⟩
/-! ### Numbers -/
def digs (n : Nat) : List UInt8 := Lib.decDigits n
theorem digs_lt {n : Nat} (h : n < 10) : digs n = [UInt8.ofNat (48 + n)] := by unfold digs; rw [Lib.decDigits, dif_pos h]
theorem digs_ge {n : Nat} (h : ¬ n < 10) : digs n = digs (n / 10) ++ [UInt8.ofNat (48 + n % 10)] := by unfold digs; rw [Lib.decDigits, dif_neg h]
theorem digs_len : ∀ (d n : Nat), n < 10 ^ (d + 1) → (digs n).length ≤ d + 1
 | 0, n, h => by rw [digs_lt (by simpa using h)]; simp
 | d + 1, n, h => by
  by_cases c : n < 10
  ·rw [digs_lt c]; simp
  ·rw [digs_ge c, List.length_append]
   have : n / 10 < 10 ^ (d + 1) := Nat.div_lt_of_lt_mul (by rw [Nat.pow_succ] at h; omega)
   have := digs_len d (n / 10) this
   simp; omega
theorem itoa_pos (n : Int) (h : 0 ≤ n) : itoaB n = mkB (digs n.toNat) := by
 unfold itoaB Lib.itoa digs mkB
 rw [if_neg (by omega)]
theorem oneB_digit (k : Nat) (h : k < 10) : oneB (IntKind.u8.wrap (IntKind.i64.wrap (48 + (k : Int)))) = mkB [UInt8.ofNat (48 + k)] := by
 have e : IntKind.u8.wrap (IntKind.i64.wrap (48 + (k : Int))) = ((48 + k : Nat) : Int) := by
  rw [wr64 _ (by omega)]
  unfold IntKind.wrap
  simp only [IntKind.signed, IntKind.bits]
  simp
  omega
 rw [e]
 rfl
theorem num_fuel : ∀ (d n fuel : Nat), n < 10 ^ (d + 1) → d < fuel → d ≤ 16 → s_l1Num_N fuel (n : Int) = some (mkB (digs n))
 | d, n, 0, _, hf, _ => by omega
 | d, n, fuel + 1, h, hf, hd => by
  show s_l1Num_R (s_l1Num_N fuel) (n : Int) = _
  unfold s_l1Num_R
  by_cases c : n < 10
  ·rw [if_pos (by omega), oneB_digit n c, digs_lt c]
  ·rw [if_neg (by omega)]
   match d, h, hf, hd with
   | 0, h, _, _ => exact absurd (by simpa using h) c
   | d + 1, h, hf, hd =>
    have h1 : n / 10 < 10 ^ (d + 1) := Nat.div_lt_of_lt_mul (by rw [Nat.pow_succ] at h; omega)
    have hbig : n < 10 ^ 18 := Nat.lt_of_lt_of_le h (Nat.pow_le_pow_right (by decide) (by omega))
    have ed : (n : Int).tdiv 10 = ((n / 10 : Nat) : Int) := by rw [Int.tdiv_eq_ediv_of_nonneg (by omega)]; omega
    have em : (n : Int).tmod 10 = ((n % 10 : Nat) : Int) := by rw [Int.tmod_eq_emod_of_nonneg (by omega)]; omega
    have ew : IntKind.i64.wrap ((n / 10 : Nat) : Int) = ((n / 10 : Nat) : Int) := wr64 _ (by omega)
    have hl := digs_len d (n / 10) h1
    rw [ed, em, ew, num_fuel d (n / 10) fuel h1 (by omega) (by omega), Option.bind_some, oneB_digit _ (Nat.mod_lt _ (by decide)), size_mk, size_mk, ckT (by simp; omega), mk_app, digs_ge c]
theorem num_eq (n : Int) (h : 0 ≤ n ∧ n < 1000000000000) : s_l1Num n = some (mkB (digs n.toNat)) := by
 have := num_fuel 12 n.toNat 1000000 (by have h13 : (10 : Nat) ^ 13 = 10000000000000 := (by decide); omega) (by decide) (by decide)
 rwa [show ((n.toNat : Nat) : Int) = n by omega] at this
theorem digs_small (n : Int) (h : 0 ≤ n ∧ n < 1000000000000) : (digs n.toNat).length ≤ 13 := digs_len 12 n.toNat (by have h13 : (10 : Nat) ^ 13 = 10000000000000 := (by decide); omega)
/-! ### Lines -/
/-- Numbers that a line may hold. -/
def Lin (l : List Int) : Prop := l.length ≤ 1000000 ∧ ∀ k ∈ l, -1 ≤ k ∧ k < 1000000000000
/-- Configurations that a text may hold. -/
structure CfgOk (l : List (List Int)) : Prop where
 len : l.length ≤ 1048576
 row : ∀ x ∈ l, Lin x ∧ x.length ≤ 8
theorem CfgOk.at {l : List (List Int)} (h : CfgOk l) {i : Nat} (hi : i < l.length) : Lin l[i] ∧ l[i].length ≤ 8 := h.row _ (List.getElem_mem hi)
end Go.Proofs.YtaogbcdlpgfplaaDoor
