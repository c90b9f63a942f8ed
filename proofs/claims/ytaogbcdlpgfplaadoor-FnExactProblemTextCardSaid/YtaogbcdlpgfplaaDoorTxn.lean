/- Texts as lists of bytes; numbers and lines. Conditions: those in each lemma. -/
import Derived.Test.YtaogbcdlpgfplaaDoorL6
import Derived.Test.YtaogbcdlpgfplaaDoorTxA
namespace Go.Proofs.YtaogbcdlpgfplaaDoor
open Go Dv
set_option linter.unusedSimpArgs false
set_option linter.unusedVariables false
set_option maxRecDepth 100000


abbrev BL (b : ByteArray) : List UInt8 := b.data.toList
def mkB (l : List UInt8) : ByteArray := ⟨l.toArray⟩
theorem mk_BL (b : ByteArray) : mkB (BL b) = b := by cases b; simp [mkB]
theorem BL_app (a b : ByteArray) : BL (a ++ b) = BL a ++ BL b := by simp [ByteArray.data_append]
theorem size_BL (b : ByteArray) : b.size = (BL b).length := by simp
theorem BL_inj {a b : ByteArray} (h : BL a = BL b) : a = b := by rw [← mk_BL a, ← mk_BL b, h]
theorem mk_app (a b : List UInt8) : mkB a ++ mkB b = mkB (a ++ b) := BL_inj (by rw [BL_app]; rfl)
theorem size_mk (l : List UInt8) : (mkB l).size = l.length := by rw [size_BL]; rfl
def digs (n : Nat) : List UInt8 := Lib.decDigits n
theorem digs_lt {n : Nat} (h : n < 10) : digs n = [UInt8.ofNat (48 + n)] := by unfold digs; rw [Lib.decDigits, dif_pos h]
theorem digs_ge {n : Nat} (h : ¬ n < 10) : digs n = digs (n / 10) ++ [UInt8.ofNat (48 + n % 10)] := by unfold digs; rw [Lib.decDigits, dif_neg h]
theorem digs_len : ∀ (d n : Nat), n < 10 ^ (d + 1) → (digs n).length ≤ d + 1
 | 0, n, h => by rw [digs_lt (by simpa using h)]; simp
 | d + 1, n, h => by
  by_cases c : n < 10
  ·rw [digs_lt c]; simp
  ·rw [digs_ge c, List.length_append]
   have : n / 10 < 10 ^ (d + 1) := Nat.div_lt_of_lt_mul (by rw [Nat.pow_succ] at h; omega)
   have := digs_len d (n / 10) this
   simp; omega
theorem itoa_pos (n : Int) (h : 0 ≤ n) : itoaB n = mkB (digs n.toNat) := by
 unfold itoaB Lib.itoa digs mkB
 rw [if_neg (by omega)]
theorem oneB_digit (k : Nat) (h : k < 10) : oneB (IntKind.u8.wrap (IntKind.i64.wrap (48 + (k : Int)))) = mkB [UInt8.ofNat (48 + k)] := by
 have e : IntKind.u8.wrap (IntKind.i64.wrap (48 + (k : Int))) = ((48 + k : Nat) : Int) := by
  rw [wr64 _ (by omega)]
  unfold IntKind.wrap
  simp only [IntKind.signed, IntKind.bits]
  simp
  omega
 rw [e]
 rfl
theorem num_fuel : ∀ (d n fuel : Nat), n < 10 ^ (d + 1) → d < fuel → d ≤ 16 → s_l1Num_N fuel (n : Int) = some (mkB (digs n))
 | d, n, 0, _, hf, _ => by omega
 | d, n, fuel + 1, h, hf, hd => by
  show s_l1Num_R (s_l1Num_N fuel) (n : Int) = _
  unfold s_l1Num_R
  by_cases c : n < 10
  ·rw [if_pos (by omega), oneB_digit n c, digs_lt c]
  ·rw [if_neg (by omega)]
   match d, h, hf, hd with
   | 0, h, _, _ => exact absurd (by simpa using h) c
   | d + 1, h, hf, hd =>
    have h1 : n / 10 < 10 ^ (d + 1) := Nat.div_lt_of_lt_mul (by rw [Nat.pow_succ] at h; omega)
    have hbig : n < 10 ^ 18 := Nat.lt_of_lt_of_le h (Nat.pow_le_pow_right (by decide) (by omega))
    have ed : (n : Int).tdiv 10 = ((n / 10 : Nat) : Int) := by rw [Int.tdiv_eq_ediv_of_nonneg (by omega)]; omega
    have em : (n : Int).tmod 10 = ((n % 10 : Nat) : Int) := by rw [Int.tmod_eq_emod_of_nonneg (by omega)]; omega
    have ew : IntKind.i64.wrap ((n / 10 : Nat) : Int) = ((n / 10 : Nat) : Int) := wr64 _ (by omega)
    have hl := digs_len d (n / 10) h1
    rw [ed, em, ew, num_fuel d (n / 10) fuel h1 (by omega) (by omega), Option.bind_some, oneB_digit _ (Nat.mod_lt _ (by decide)), size_mk, size_mk, ckT (by simp; omega), mk_app, digs_ge c]
theorem num_eq (n : Int) (h : 0 ≤ n ∧ n < 1000000000000) : s_l1Num n = some (mkB (digs n.toNat)) := by
 have := num_fuel 12 n.toNat 1000000 (by have h13 : (10 : Nat) ^ 13 = 10000000000000 := (by decide); omega) (by decide) (by decide)
 rwa [show ((n.toNat : Nat) : Int) = n by omega] at this
theorem digs_small (n : Int) (h : 0 ≤ n ∧ n < 1000000000000) : (digs n.toNat).length ≤ 13 := digs_len 12 n.toNat (by have h13 : (10 : Nat) ^ 13 = 10000000000000 := (by decide); omega)
/-! ### Lines -/
/-- A number's part of a line. -/
def numL (k : Int) : List UInt8 := 32 :: (if k < 0 then [42] else digs k.toNat)
def lineL (w : List UInt8) (l : List Int) : List UInt8 := w ++ (l.map numL).flatten
/-- Numbers that a line may hold. -/
def Lin (l : List Int) : Prop := l.length ≤ 1000000 ∧ ∀ k ∈ l, -1 ≤ k ∧ k < 1000000000000
theorem numL_len {k : Int} (h : -1 ≤ k ∧ k < 1000000000000) : (numL k).length ≤ 14 := by
 unfold numL
 split
 ·simp
 ·have := digs_small k (by omega)
  simp; omega
theorem flat_len {α : Type} (f : α → List UInt8) (n : Nat) : ∀ l : List α, (∀ k ∈ l, (f k).length ≤ n) → (l.map f).flatten.length ≤ n * l.length
 | [], _ => by simp
 | k :: l, h => by
  have h1 := flat_len f n l (fun x hx => h x (List.mem_cons_of_mem _ hx))
  have h2 := h k List.mem_cons_self
  simp only [List.map_cons, List.flatten_cons, List.length_append, List.length_cons, Nat.mul_add]
  omega
theorem flat_take_succ {α : Type} [Inhabited α] (f : α → List UInt8) (l : List α) (i : Nat) (hi : i < l.length) : ((l.take (i + 1)).map f).flatten = ((l.take i).map f).flatten ++ f (l.getD i default) := by
 rw [List.take_succ_eq_append_getElem hi, List.map_append, List.flatten_append, getD_get _ _ hi]; simp
theorem lineL_len {w : List UInt8} {l : List Int} (h : Lin l) : (lineL w l).length ≤ w.length + 14 * l.length := by
 unfold lineL
 rw [List.length_append]
 have := flat_len numL 14 l (fun k hk => numL_len (h.2 k hk))
 omega
theorem i_line (w : List UInt8) (l : List Int) (h : Lin l) (hw : w.length ≤ 1000) : i_wordsLine (mkB w) l = some (mkB (lineL w l)) := by
 unfold i_wordsLine i_wordsLine_l0
 have key := itO_for (fun v => i_wordsLine_l0_S l v.1 v.2) (fun i => (mkB (w ++ ((l.take i).map numL).flatten), (i : Int))) l.length (mkB (lineL w l)) ?_ ?_
 ·have e0 : w ++ ((l.take 0).map numL).flatten = w := by simp
  rw [e0, Int.natCast_zero] at key
  rw [key]; rfl
 ·intro i hi
  have hk : -1 ≤ l.getD i default ∧ l.getD i default < 1000000000000 := by rw [getD_get _ _ hi]; exact h.2 _ (List.getElem_mem hi)
  have hl0 := h.1
  have hfl := flat_len numL 14 (l.take i) (fun k hk => numL_len (h.2 k (List.mem_of_mem_take hk)))
  rw [List.length_take, Nat.min_eq_left (by omega)] at hfl
  rw [flat_take_succ numL l i hi]
  simp only [i_wordsLine_l0_S, Int.toNat_natCast]
  rw [if_pos (lt_nat hi), ckT (by omega), wrS i (by omega)]
  generalize ((l.take i).map numL).flatten = acc at hfl ⊢
  have e32 : ({ data := #[32] } : ByteArray) = mkB [32] := rfl
  have e42 : ({ data := #[32, 42] } : ByteArray) = mkB [32, 42] := rfl
  rw [e32, e42]
  by_cases c : l.getD i default = -1
  ·rw [if_pos c, size_mk, size_mk, ckT (by simp; omega), mk_app, c, List.append_assoc]
   rfl
  ·have hd := digs_small (l.getD i default) (by omega)
   have hz : (itoaB (l.getD i default)).size ≤ 13 := by rw [itoa_pos _ (by omega), size_mk]; exact hd
   rw [if_neg c, ckT (by omega), ckT (by rw [size_mk]; simp only [List.length_append, List.length_cons, List.length_nil]; omega), ckT (by rw [ByteArray.size_append, size_mk, size_mk]; simp only [List.length_append, List.length_cons, List.length_nil]; omega), itoa_pos _ (by omega), mk_app, mk_app, List.append_assoc]
   unfold numL
   rw [if_neg (by omega)]
   rfl
 ·simp only [i_wordsLine_l0_S]
  rw [if_neg (not_lt_nat _), List.take_length]
  rfl
theorem s_line (w : List UInt8) (l : List Int) (h : Lin l) (hw : w.length ≤ 1000) : s_maLine (mkB w) l = some (mkB (lineL w l)) := by
 unfold s_maLine s_maLine_l0
 have key := itO_for (fun v => s_maLine_l0_S l v.1 v.2) (fun i => (mkB (w ++ ((l.take i).map numL).flatten), (i : Int))) l.length (mkB (lineL w l)) ?_ ?_
 ·have e0 : w ++ ((l.take 0).map numL).flatten = w := by simp
  rw [e0, Int.natCast_zero] at key
  rw [key]; rfl
 ·intro i hi
  have hk : -1 ≤ l.getD i default ∧ l.getD i default < 1000000000000 := by rw [getD_get _ _ hi]; exact h.2 _ (List.getElem_mem hi)
  have hl0 := h.1
  have hfl := flat_len numL 14 (l.take i) (fun k hk => numL_len (h.2 k (List.mem_of_mem_take hk)))
  rw [List.length_take, Nat.min_eq_left (by omega)] at hfl
  rw [flat_take_succ numL l i hi]
  simp only [s_maLine_l0_S, Int.toNat_natCast]
  rw [if_pos (lt_nat hi), ckT (by omega), wrS i (by omega)]
  generalize l.getD i default = x at hk ⊢
  generalize ((l.take i).map numL).flatten = acc at hfl ⊢
  have e32 : ({ data := #[32] } : ByteArray) = mkB [32] := rfl
  have e42 : ({ data := #[32, 42] } : ByteArray) = mkB [32, 42] := rfl
  rw [e32, e42]
  by_cases c : x < 0
  ·have e1 : x = -1 := by omega
   rw [if_pos c, size_mk, size_mk, ckT (by simp; omega), mk_app, e1, List.append_assoc]
   rfl
  ·have hd := digs_small x (by omega)
   rw [if_neg c, num_eq _ (by omega), Option.bind_some, size_mk, size_mk, ckT (by simp; omega), mk_app, size_mk, size_mk, ckT (by simp; omega), mk_app, List.append_assoc]
   unfold numL
   rw [if_neg c]
   rfl
 ·simp only [s_maLine_l0_S]
  rw [if_neg (not_lt_nat _), List.take_length]
  rfl
/-! ### Texts of problems -/
def probW : List UInt8 := [112, 114, 111, 98, 108, 101, 109]
def nodeW : List UInt8 := [110, 111, 100, 101]
def edgeW : List UInt8 := [101, 100, 103, 101]
/-- The lines of a problem's text. -/
def linesP (a d : Int) (ns es : List (List Int)) : List (List UInt8) := lineL probW [a, d] :: (ns.map (lineL nodeW) ++ es.map (lineL edgeW))
def textP (a d : Int) (ns es : List (List Int)) : List UInt8 := ((linesP a d ns es).map (· ++ [10])).flatten
theorem join_lines (l : List (List UInt8)) (h : l ≠ []) : Lib.join l [10] ++ [10] = (l.map (· ++ [10])).flatten := by
 cases l with
 | nil => exact absurd rfl h
 | cons x r =>
  rw [Lib.join_cons]
  unfold Lib.joinTail
  have key : ∀ r : List (List UInt8), (r.map ([10] ++ ·)).flatten ++ [10] = [10] ++ (r.map (· ++ [10])).flatten := fun r => by
   induction r with
   | nil => rfl
   | cons y r ih => rw [List.map_cons, List.flatten_cons, List.append_assoc, ih, List.map_cons, List.flatten_cons]; simp
  rw [List.append_assoc, key, List.map_cons, List.flatten_cons, List.append_assoc]
/-- Configurations that a text may hold. -/
structure CfgOk (l : List (List Int)) : Prop where
 len : l.length ≤ 1048576
 row : ∀ x ∈ l, Lin x ∧ x.length ≤ 8
theorem CfgOk.at {l : List (List Int)} (h : CfgOk l) {i : Nat} (hi : i < l.length) : Lin l[i] ∧ l[i].length ≤ 8 := h.row _ (List.getElem_mem hi)
theorem line_short {w : List UInt8} {x : List Int} (hw : w.length ≤ 7) (h : Lin x ∧ x.length ≤ 8) : (lineL w x).length ≤ 119 := by
 have := lineL_len (w := w) h.1
 omega

end Go.Proofs.YtaogbcdlpgfplaaDoor
