/- Texts cut at one letter. Conditions: those in each lemma. -/
import Derived.Test.YtaogbcdlpgfplaaDoorL6
import Derived.Test.YtaogbcdlpgfplaaDoorTxn
namespace Go.Proofs.YtaogbcdlpgfplaaDoor
open Go Dv
set_option linter.unusedSimpArgs false
set_option linter.unusedVariables false
set_option maxRecDepth 100000


/-- A text cut at every instance of a letter. -/
def cutL (c : UInt8) : List UInt8 → List (List UInt8)
 | [] => [[]]
 | x :: l => if x = c then [] :: cutL c l else match cutL c l with
  | [] => [[x]]
  | h :: t => (x :: h) :: t
theorem cutL_cons (c x : UInt8) (l : List UInt8) : cutL c (x :: l) = if x = c then [] :: cutL c l else match cutL c l with
  | [] => [[x]]
  | h :: t => (x :: h) :: t := rfl
theorem cutL_ne (c : UInt8) (l : List UInt8) : cutL c l ≠ [] := by
 cases l with
 | nil => simp [cutL]
 | cons x l =>
  unfold cutL
  split
  ·simp
  ·split <;> simp
theorem cutL_len (c : UInt8) : ∀ l : List UInt8, (cutL c l).length = l.count c + 1
 | [] => rfl
 | x :: l => by
  have ih := cutL_len c l
  unfold cutL
  by_cases h : x = c
  ·rw [if_pos h, List.length_cons, ih, h, List.count_cons_self]
  ·rw [if_neg h, List.count_cons_of_ne h]
   cases e : cutL c l with
   | nil => exact absurd e (cutL_ne c l)
   | cons a t => rw [e] at ih; simpa using ih
/-- A piece without the letter, and what follows it. -/
theorem cutL_app (c : UInt8) : ∀ (w l : List UInt8), c ∉ w → cutL c (w ++ c :: l) = w :: cutL c l
 | [], l, _ => by simp [cutL]
 | x :: w, l, h => by
  have hx : ¬ x = c := fun e => h (by rw [e]; exact List.mem_cons_self)
  rw [List.cons_append]
  rw [cutL_cons, if_neg hx, cutL_app c w l (fun hm => h (List.mem_cons_of_mem _ hm))]
theorem cutL_none (c : UInt8) : ∀ w : List UInt8, c ∉ w → cutL c w = [w]
 | [], _ => rfl
 | x :: w, h => by
  have hx : ¬ x = c := fun e => h (by rw [e]; exact List.mem_cons_self)
  rw [cutL_cons, if_neg hx, cutL_none c w (fun hm => h (List.mem_cons_of_mem _ hm))]
theorem join_cons2 (x y : List UInt8) (r : List (List UInt8)) (s : List UInt8) : Lib.join (x :: y :: r) s = x ++ s ++ Lib.join (y :: r) s := by
 rw [Lib.join_cons, Lib.join_cons]
 unfold Lib.joinTail
 simp [List.append_assoc]
theorem join_cutL (c : UInt8) : ∀ l : List UInt8, Lib.join (cutL c l) [c] = l
 | [] => by simp [cutL, Lib.join_one]
 | x :: l => by
  have ih := join_cutL c l
  unfold cutL
  by_cases h : x = c
  ·rw [if_pos h]
   cases e : cutL c l with
   | nil => exact absurd e (cutL_ne c l)
   | cons a t =>
    rw [e] at ih
    rw [join_cons2, ih, h]; rfl
  ·rw [if_neg h]
   cases e : cutL c l with
   | nil => exact absurd e (cutL_ne c l)
   | cons a t =>
    rw [e] at ih
    show Lib.join ((x :: a) :: t) [c] = x :: l
    rw [Lib.join_cons, List.cons_append, ← Lib.join_cons, ih]
/-- The pieces are no longer than the text. -/
theorem cutL_mem (c : UInt8) : ∀ (l : List UInt8) (w : List UInt8), w ∈ cutL c l → w.length ≤ l.length
 | [], w, h => by simp [cutL] at h; simp [h]
 | x :: l, w, h => by
  have ih := cutL_mem c l
  unfold cutL at h
  by_cases hx : x = c
  ·rw [if_pos hx] at h
   rcases List.mem_cons.1 h with rfl | h
   ·simp
   ·have := ih w h; simp; omega
  ·rw [if_neg hx] at h
   cases e : cutL c l with
   | nil => exact absurd e (cutL_ne c l)
   | cons a t =>
    rw [e] at h ih
    rcases List.mem_cons.1 h with rfl | h
    ·have := ih a List.mem_cons_self; simpa using this
    ·have := ih w (List.mem_cons_of_mem _ h); simp; omega
theorem index_at (c : UInt8) (w l : List UInt8) (h : c ∉ w) : Lib.index (w ++ c :: l) [c] = w.length := by
 rw [Lib.index_one]
 induction w with
 | nil => simp [Lib.indexByte]
 | cons x w ih =>
  have hx : (x == c) = false := by rw [beq_eq_false_iff_ne]; exact fun e => h (by rw [e]; exact List.mem_cons_self)
  rw [List.cons_append]
  unfold Lib.indexByte
  rw [hx, ih (fun hm => h (List.mem_cons_of_mem _ hm))]
  have : ((w.length : Int) == -1) = false := by rw [beq_eq_false_iff_ne]; omega
  simp [this]
theorem first_cut (c : UInt8) : ∀ l : List UInt8, c ∈ l → ∃ w r, l = w ++ c :: r ∧ c ∉ w
 | [], h => by cases h
 | x :: l, h => by
  by_cases hx : x = c
  ·exact ⟨[], l, by rw [hx]; rfl, by simp⟩
  ·rcases List.mem_cons.1 h with e | h
   ·exact absurd e.symm hx
   ·obtain ⟨w, r, e, hw⟩ := first_cut c l h
    exact ⟨x :: w, r, by rw [e]; rfl, fun hm => by rcases List.mem_cons.1 hm with e | hm; exact hx e.symm; exact hw hm⟩
theorem splitK_cut (c : UInt8) : ∀ (n : Nat) (l : List UInt8), l.count c = n → Lib.splitK [c] 0 n l = cutL c l
 | 0, l, h => by
  have : c ∉ l := fun hm => by have := List.count_pos_iff.2 hm; omega
  rw [cutL_none c l this]; rfl
 | n + 1, l, h => by
  obtain ⟨w, r, rfl, hw⟩ := first_cut c l (List.count_pos_iff.1 (by omega))
  have hr : r.count c = n := by
   rw [List.count_append, List.count_eq_zero.2 hw, List.count_cons_self] at h; omega
  unfold Lib.splitK
  rw [index_at c w r hw, cutL_app c w r hw]
  have : ((w.length : Int) == -1) = false := by rw [beq_eq_false_iff_ne]; omega
  rw [this]
  simp only [Bool.false_eq_true, if_false, Int.toNat_natCast, Nat.add_zero, List.length_cons, List.length_nil]
  rw [List.take_left, ← splitK_cut c n r hr]
  congr 1
  rw [show w ++ c :: r = (w ++ [c]) ++ r by simp, List.drop_left' (by simp)]
/-- Texts cut by the library. -/
theorem splitS_one (s : ByteArray) (c : UInt8) : splitS s (mkB [c]) = (cutL c (BL s)).map mkB := by
 have h := Lib.splitB_data (mkB [c]) 0 (Lib.countB s (mkB [c])) s
 have hc : Lib.countB s (mkB [c]) = (BL s).count c := by
  show Lib.count _ [c] = _
  rw [Lib.count_one]
 have h2 : (splitS s (mkB [c])).map BL = cutL c (BL s) := by
  unfold splitS
  refine h.trans ?_
  rw [hc]
  exact splitK_cut c _ (BL s) rfl
 rw [← h2, List.map_map]
 have : mkB ∘ BL = id := funext fun b => mk_BL b
 rw [this, List.map_id]

end Go.Proofs.YtaogbcdlpgfplaaDoor
