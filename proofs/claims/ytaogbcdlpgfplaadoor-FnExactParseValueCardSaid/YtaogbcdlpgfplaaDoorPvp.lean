/- Texts of value programs read: program and reference agree. Conditions: those in each lemma. -/
import Derived.Test.YtaogbcdlpgfplaaDoorL6
import Derived.Test.YtaogbcdlpgfplaaDoorTxW
import Derived.Test.YtaogbcdlpgfplaaDoorRdf
import Derived.Test.YtaogbcdlpgfplaaDoorVtn
import Derived.Test.YtaogbcdlpgfplaaDoorFst
namespace Go.Proofs.YtaogbcdlpgfplaaDoor
open Go Dv
set_option linter.unusedSimpArgs false
set_option linter.unusedVariables false
set_option maxRecDepth 100000


/-- All pieces read, or none. -/
def trv {α β : Type} (f : α → Option β) : List α → Option (List β)
 | [] => some []
 | x :: r => (f x).bind fun k => (trv f r).map fun l => k :: l
theorem gath_trv {α β : Type} (f : α → Option β) : ∀ (r : List α) (t : Nat) (out : List β), gath (fun _ (out : List β) (w : α) => (f w).map fun k => out ++ [k]) t out r = (trv f r).map fun l => out ++ l
 | [], t, out => by simp [gath, trv]
 | w :: r, t, out => by
  rw [gath_cons]
  unfold trv
  cases f w with
  | none => rfl
  | some k =>
   rw [Option.map_some, Option.bind_some, Option.bind_some, gath_trv f r]
   cases trv f r with
   | none => rfl
   | some l => simp
theorem trv_all {α β : Type} (f : α → Option β) (g : α → β) : ∀ (r : List α), (∀ w ∈ r, f w = some (g w)) → trv f r = some (r.map g)
 | [], _ => rfl
 | w :: r, h => by
  unfold trv
  rw [h w List.mem_cons_self, Option.bind_some, trv_all f g r fun x hx => h x (List.mem_cons_of_mem _ hx)]; rfl
theorem trv_mem {α β : Type} (f : α → Option β) : ∀ (r : List α) (l : List β), trv f r = some l → (∀ w ∈ r, ∃ q, q ∈ l ∧ f w = some q) ∧ l.length = r.length
 | [], l, h => by unfold trv at h; injection h with h; rw [← h]; exact ⟨fun w hw => absurd hw (by simp), rfl⟩
 | x :: r, l, h => by
  unfold trv at h
  cases e : f x with
  | none => rw [e] at h; cases h
  | some k =>
   rw [e, Option.bind_some] at h
   cases e2 : trv f r with
   | none => rw [e2] at h; cases h
   | some m =>
    rw [e2] at h
    injection h with h
    obtain ⟨h1, h2⟩ := trv_mem f r m e2
    subst h
    refine ⟨fun w hw => ?_, by rw [List.length_cons, List.length_cons, h2]⟩
    rcases List.mem_cons.1 hw with rfl | hw
    ·exact ⟨k, List.mem_cons_self, e⟩
    ·obtain ⟨q, hq, hf⟩ := h1 w hw
     exact ⟨q, List.mem_cons_of_mem _ hq, hf⟩
/-! ### Words -/
/-- Which word a piece is. -/
def idxV (w : List UInt8) : Option Nat := firstIx 18 fun i => wordsV.getD i [] == w
theorem wordsV_len : wordsV.length = 18 := rfl
theorem wordsV_inj : ∀ i, i < 18 → ∀ j, j < 18 → wordsV.getD i [] = wordsV.getD j [] → i = j := by decide
theorem wordsV_ne : ∀ i, i < 18 → wordsV.getD i [] ≠ [] := by decide
theorem idxV_some {w : List UInt8} {i : Nat} (h : idxV w = some i) : i < 18 ∧ wordsV.getD i [] = w := by
 have := firstIx_lt h
 exact ⟨this.1, beq_iff_eq.1 this.2⟩
theorem idxV_iff {w : List UInt8} {i : Nat} (hi : i < 18) : wordsV.getD i [] = w ↔ idxV w = some i := by
 constructor
 ·intro h
  refine firstIx_at hi (beq_iff_eq.2 h) fun j hj => ?_
  rw [beq_eq_false_iff_ne]
  intro e
  have := wordsV_inj i hi j (by omega) (h.trans e.symm)
  omega
 ·exact fun h => (idxV_some h).2
theorem i_idx (w : List UInt8) : g_slices_Index_Sstring_string (wordsV.map mkB) (mkB w) = some (match idxV w with | some i => (i : Int) | none => -1) := by
 have key := itO_find (fun v => g_slices_Index_Sstring_string_l0_S (wordsV.map mkB) (mkB w) v) (fun i => (i : Int)) 18 (fun i => wordsV.getD i [] == w) (fun i => Sum.inl (i : Int)) (Sum.inr ()) ?_ ?_
 ·unfold g_slices_Index_Sstring_string g_slices_Index_Sstring_string_l0
  rw [Int.natCast_zero] at key
  rw [key, Option.bind_some]
  unfold idxV
  cases firstIx 18 fun i => wordsV.getD i [] == w <;> rfl
 ·intro i hi
  simp only [g_slices_Index_Sstring_string_l0_S, Int.toNat_natCast, wordsV_get hi, eqW]
  rw [List.length_map, wordsV_len, if_pos (by omega), ckT (by omega), wrS i (by omega)]
  by_cases h : w = wordsV.getD i []
  ·rw [decide_eq_true h, if_pos rfl, if_pos (beq_iff_eq.2 h.symm)]
  ·rw [decide_eq_false h, if_neg (by decide), if_neg (fun e => h (beq_iff_eq.1 e).symm)]
 ·simp only [g_slices_Index_Sstring_string_l0_S]
  rw [List.length_map, wordsV_len, if_neg (by omega)]
/-- A number with the piece as its text. -/
def numI (w : List UInt8) : Option Int :=
 match atoiF (mkB w) with
 | some (.inl n) => if itoaB n = mkB w then some n else none
 | _ => none
/-- What the program reads of a piece. -/
def ivW (w : List UInt8) : Option (Int × Int) :=
 match idxV w with
 | some i => some ((i : Int) + 2, 0)
 | none => (numI w).map fun n => (1, n)
/-- What the reference reads of a piece. -/
def milW : List UInt8 := [49, 48, 48, 48, 48, 48, 48]
def vaN (w : List UInt8) : Int := if w = milW then 1000000 else match readD w with | some n => (n : Int) | none => -1
def svW (w : List UInt8) : Int × Int :=
 match idxV w with
 | some i => ((i : Int) + 2, 0)
 | none => (1, vaN w)
theorem mil_digs : milW = digs 1000000 := spell_canon _ milW 1000000 rfl (by decide) (by decide) (by decide)
theorem atoi_of (n : Int) (h : -9223372036854775808 ≤ n ∧ n ≤ 9223372036854775807) (w : List UInt8) (hw : w.length ≤ 281474976710656) (e : mkB w = itoaB n) : numI w = some n := by
 have ha : Lib.atoiAll (itoaB n).data.toList = .ok n := atoi_itoa h
 unfold numI atoiF atoiR
 rw [e, if_pos (by rw [← e, size_mk]; exact hw), ha]
 simp only [if_true]
theorem numI_some {w : List UInt8} {n : Int} (h : numI w = some n) : mkB w = itoaB n := by
 unfold numI at h
 split at h
 ·split at h
  ·rename_i e
   injection h with h
   rw [← h, e]
  ·cases h
 ·cases h
theorem ok_num {n : Int} : okOp 1 n = true ↔ 0 ≤ n ∧ n ≤ 1000000 := by
 unfold okOp
 rw [if_pos rfl, Bool.and_eq_true, inR_iff, inR_iff]
 omega
theorem vaN_digs {w : List UInt8} (h : 0 ≤ vaN w) : w = digs (vaN w).toNat := by
 unfold vaN at h ⊢
 by_cases c : w = milW
 ·rw [if_pos c]; exact c.trans mil_digs
 ·rw [if_neg c] at h ⊢
  cases e : readD w with
  | none => rw [e] at h; simp at h
  | some n => simp only [Int.toNat_natCast]; exact ((readD_iff _ _).1 e).2
theorem digs_inj {m n : Nat} (h : digs m = digs n) : m = n := by
 have := spell_digs m
 rw [h, spell_digs n] at this
 exact (Option.some.inj this).symm
theorem vaN_of {n : Nat} (h : n ≤ 1000000) : vaN (digs n) = (n : Int) := by
 unfold vaN
 by_cases c : digs n = milW
 ·rw [if_pos c]
  have := digs_inj (c.trans mil_digs)
  omega
 ·rw [if_neg c, readD_digs]
  have : n ≠ 1000000 := fun e => c (by rw [e, mil_digs])
  omega
theorem sv_text {w : List UInt8} (h : okOp (svW w).1 (svW w).2 = true) : opT (svW w) = w := by
 unfold svW at h ⊢
 cases e : idxV w with
 | some i =>
  unfold opT
  simp only
  rw [if_neg (by omega), show ((i : Int) + 2 - 2).toNat = i by omega]
  exact (idxV_some e).2
 | none =>
  rw [e] at h
  have hb : 0 ≤ vaN w ∧ vaN w ≤ 1000000 := ok_num.1 h
  unfold opT
  simp only
  rw [if_pos trivial, itoa_pos _ hb.1, BL_mk]
  exact (vaN_digs hb.1).symm
theorem iv_of_sv {w : List UInt8} (hw : w.length ≤ 281474976710656) (h : okOp (svW w).1 (svW w).2 = true) : ivW w = some (svW w) := by
 unfold svW at h ⊢
 unfold ivW
 cases e : idxV w with
 | some i => rfl
 | none =>
  rw [e] at h
  have hb : 0 ≤ vaN w ∧ vaN w ≤ 1000000 := ok_num.1 h
  have : numI w = some (vaN w) := atoi_of _ (by omega) w hw (by rw [itoa_pos _ hb.1, ← vaN_digs hb.1])
  simp only [this, Option.map_some]
theorem sv_of_iv {w : List UInt8} {q : Int × Int} (h : ivW w = some q) (hq : okOp q.1 q.2 = true) : svW w = q := by
 unfold ivW at h
 unfold svW
 cases e : idxV w with
 | some i => rw [e] at h; exact Option.some.inj h
 | none =>
  rw [e] at h
  simp only at h
  cases en : numI w with
  | none => rw [en] at h; cases h
  | some n =>
   rw [en] at h
   have h := Option.some.inj h
   subst h
   have hb : 0 ≤ n ∧ n ≤ 1000000 := ok_num.1 hq
   have ew := mk_inj ((numI_some en).trans (itoa_pos n hb.1))
   simp only
   rw [ew, vaN_of (by omega)]
   congr 1
   omega
/-! ### The program -/
theorem i_word_step (l : List UInt8) (hl : l.length ≤ 1048576) (prog : List (Int × Int)) (i : Nat) (hi : i < (cutL 32 l).length) (hp : prog.length = i) :
  i_ParseValue_l0_S (mkB l) prog (i : Int) = some (match (ivW (cutL 32 l)[i]).map (fun k => prog ++ [k]) with | some c => .inl (c, ((i + 1 : Nat) : Int)) | none => .inr (.inl ())) := by
 have hlen := cutL_len 32 l
 have hct : l.count 32 ≤ l.length := List.count_le_length
 have hrow := cutL_mem 32 l _ (List.getElem_mem hi)
 have eg : ((cutL 32 l).map mkB).getD i default = mkB (cutL 32 l)[i] := getM _ hi
 have esp : splitS (mkB l) ({ data := #[32] } : ByteArray) = (cutL 32 l).map mkB := by
  rw [show ({ data := #[32] } : ByteArray) = mkB [32] from rfl, splitS_one, BL_mk]
 simp only [i_ParseValue_l0_S, Int.toNat_natCast, esp, eg]
 rw [List.length_map, if_pos (lt_nat hi), ckT (by omega), i_words, Option.bind_some, i_idx, Option.bind_some, wrS i (by omega)]
 generalize (cutL 32 l)[i] = w at hrow
 unfold ivW
 cases e : idxV w with
 | some k =>
  have hk := (idxV_some e).1
  simp only
  rw [wr64 _ (by omega), if_neg (by omega), ckT (by omega), show (2 : Int) + (k : Int) = (k : Int) + 2 by omega]
  rfl
 | none =>
  simp only
  rw [wr64 _ (by omega), if_pos (by omega)]
  rcases atoi_cases (mkB w) (by rw [size_mk]; omega) with ⟨n, hn, hw, ha⟩ | ⟨hno, hx⟩
  ·have : numI w = some n := atoi_of n hn w (by omega) hw
   rw [ha, Option.bind_some, this]
   simp only
   rw [ckT hn, ← hw]
   simp only [beq_self_eq_true, if_true]
   rw [ckT (by omega)]
   rfl
  ·have : numI w = none := by
    cases hr : numI w with
    | none => rfl
    | some m =>
     have e2 := numI_some hr
     rcases hx with ⟨q, ha, hq, hne⟩ | ⟨q, ha⟩
     ·unfold numI at hr
      rw [ha] at hr
      simp only at hr
      rw [if_neg hne] at hr
      cases hr
     ·unfold numI at hr
      rw [ha] at hr
      cases hr
   rw [this]
   rcases hx with ⟨q, ha, hq, hne⟩ | ⟨q, ha⟩
   ·have hf : ((itoaB q).toList == (mkB w).toList) = false := by
     rw [eq_bytes]; exact decide_eq_false hne
    rw [ha, Option.bind_some]
    simp only
    rw [ckT hq, hf]
    rfl
   ·rw [ha, Option.bind_some]
    rfl
theorem i_vparse (l : List UInt8) (hl : l.length ≤ 1048576) : i_ParseValue (mkB l) = some (match trv ivW (cutL 32 l) with | some p => if progB p = true then (p, true) else ([], false) | none => ([], false)) := by
 have hlen := cutL_len 32 l
 have hct : l.count 32 ≤ l.length := List.count_le_length
 have esp : splitS (mkB l) ({ data := #[32] } : ByteArray) = (cutL 32 l).map mkB := by
  rw [show ({ data := #[32] } : ByteArray) = mkB [32] from rfl, splitS_one, BL_mk]
 have key := itO_gath (fun v => i_ParseValue_l0_S (mkB l) v.1 v.2) (fun i (p : List (Int × Int)) => (p, (i : Int))) (cutL 32 l) (fun _ (p : List (Int × Int)) (w : List UInt8) => (ivW w).map fun k => p ++ [k]) (fun i p => p.length = i) (.inl ()) (fun p => .inr p) ?_ ?_ ?_ [] rfl
 ·rw [gath_trv] at key
  unfold i_ParseValue i_ParseValue_l0
  rw [show ({ data := #[32] } : ByteArray) = mkB [32] from rfl, size_mk, size_mk, ckT (by simp; omega)]
  rw [Int.natCast_zero] at key
  rw [key, Option.bind_some]
  cases trv ivW (cutL 32 l) with
  | none => rfl
  | some p =>
   simp only [Option.map_some, List.nil_append]
   rw [i_prog_eq, Option.bind_some]
   by_cases h : progB p = true
   ·rw [if_pos h, if_pos h]
   ·rw [if_neg h, if_neg h]
 ·intro i p hi hp
  refine (i_word_step l hl p i hi hp).trans ?_
  cases Option.map (fun k => p ++ [k]) (ivW (cutL 32 l)[i]) <;> rfl
 ·intro i p c hi hp hc
  cases hs : ivW (cutL 32 l)[i] with
  | none => rw [hs] at hc; cases hc
  | some k => rw [hs] at hc; injection hc with hc; rw [← hc, List.length_append, hp]; rfl
 ·intro p hp
  simp only [i_ParseValue_l0_S, esp]
  rw [List.length_map, if_neg (not_lt_nat _)]
/-! ### The reference -/
theorem s_num (w : List UInt8) : s_vaNumber (mkB w) = some (vaN w) := by
 unfold s_vaNumber vaN
 rw [show ({ data := #[49, 48, 48, 48, 48, 48, 48] } : ByteArray) = mkB milW from rfl, eqW]
 by_cases h : w = milW
 ·rw [decide_eq_true h, if_pos rfl, if_pos h]
 ·rw [decide_eq_false h, if_neg (by decide), if_neg h, s_read]
  cases readD w <;> rfl
theorem s_word (s : ByteArray) (R : List ByteArray) (out : List (Int × Int)) (t : Nat) (w : List UInt8) (v : Int) (hR : R.getD t default = mkB w) :
  s_ParseValue_l0 s R out (t : Int) (mkB [] :: mkB [] :: wordsV.map mkB) (1, v, 0) = some (match idxV w with | some i => ((i : Int) + 2, 0) | none => (1, v)) := by
 have hlen : (mkB [] :: mkB [] :: wordsV.map mkB).length = 20 := rfl
 have key := itO_for (fun u => s_ParseValue_l0_S s R out (t : Int) (mkB [] :: mkB [] :: wordsV.map mkB) u.1 u.2.1 u.2.2)
  (fun k => match idxV w with | some i => if i + 2 < k then ((i : Int) + 2, 0, (k : Int)) else (1, v, (k : Int)) | none => (1, v, (k : Int))) 20 (match idxV w with | some i => ((i : Int) + 2, 0) | none => (1, v)) ?_ ?_
 ·unfold s_ParseValue_l0
  have e0 : (match idxV w with | some i => if i + 2 < 0 then ((i : Int) + 2, 0, ((0 : Nat) : Int)) else (1, v, ((0 : Nat) : Int)) | none => (1, v, ((0 : Nat) : Int))) = ((1, v, 0) : Int × Int × Int) := by
   cases idxV w <;> rfl
  rw [e0] at key
  exact key
 ·intro k hk
  have step : ∀ x y : Int, s_ParseValue_l0_S s R out (t : Int) (mkB [] :: mkB [] :: wordsV.map mkB) x y (k : Int) = some (.inl (if 2 ≤ k ∧ idxV w = some (k - 2) then ((k : Int), 0, ((k + 1 : Nat) : Int)) else (x, y, ((k + 1 : Nat) : Int)))) := by
   intro x y
   have ee : ({ data := #[] } : ByteArray) = mkB [] := rfl
   simp only [s_ParseValue_l0_S, Int.toNat_natCast, hR, ee]
   rw [hlen, if_pos (by omega), ckT (by omega), wrS k (by omega)]
   match k, hk with
   | 0, _ => simp only [List.getD_cons_zero, eqW, decide_true, if_true]; rw [if_neg (by omega)]
   | 1, _ => simp only [List.getD_cons_zero, List.getD_cons_succ, eqW, decide_true, if_true]; rw [if_neg (by omega)]
   | k + 2, hk =>
    simp only [List.getD_cons_succ, wordsV_get (show k < 18 by omega), eqW]
    rw [decide_eq_false (wordsV_ne k (by omega)), if_neg (by decide)]
    by_cases h : wordsV.getD k [] = w
    ·rw [decide_eq_true h, if_pos rfl, if_pos ⟨by omega, by rw [Nat.add_sub_cancel]; exact (idxV_iff (by omega)).1 h⟩]
    ·rw [decide_eq_false h, if_neg (by decide), if_neg]
     rintro ⟨_, h2⟩
     rw [Nat.add_sub_cancel] at h2
     exact h ((idxV_iff (by omega)).2 h2)
  cases e : idxV w with
  | none =>
   simp only
   rw [step, e, if_neg (by simp)]
  | some i =>
   simp only
   by_cases c1 : i + 2 < k
   ·rw [if_pos c1, if_pos (by omega)]
    simp only
    rw [step, e, if_neg]
    rintro ⟨_, h2⟩
    injection h2 with h2
    omega
   ·rw [if_neg c1]
    simp only
    rw [step, e]
    by_cases c2 : i + 2 = k
    ·rw [if_pos ⟨by omega, by congr 1; omega⟩, if_pos (by omega), ← c2]
     rfl
    ·rw [if_neg, if_neg (by omega)]
     rintro ⟨_, h2⟩
     injection h2 with h2
     omega
 ·have h18 : ∀ i, idxV w = some i → i < 18 := fun i h => (idxV_some h).1
  cases e : idxV w with
  | none => simp only [s_ParseValue_l0_S]; rw [hlen, if_neg (by omega)]
  | some i =>
   have := h18 i e
   simp only
   rw [if_pos (by omega)]
   simp only [s_ParseValue_l0_S]
   rw [hlen, if_neg (by omega)]
theorem s_vparse (l : List UInt8) (hl : l.length ≤ 1048576) : s_ParseValue (mkB l) = some (if progB ((cutL 32 l).map svW) = true then (if textV ((cutL 32 l).map svW) = l then ((cutL 32 l).map svW, true) else ([], false)) else ([], false)) := by
 have hlen := cutL_len 32 l
 have hct : l.count 32 ≤ l.length := List.count_le_length
 have hsp := s_split 32 l (by omega)
 have e32' : ((32 : UInt8).toNat : Int) = 32 := rfl
 rw [e32'] at hsp
 have key := itO_push (fun v => s_ParseValue_l1_S (mkB l) ((cutL 32 l).map mkB) v.1 v.2) (cutL 32 l) svW ?_ ?_
 ·unfold s_ParseValue s_ParseValue_l1
  rw [hsp, Option.bind_some, key, Option.bind_some, s_prog_eq, Option.bind_some]
  by_cases h : progB ((cutL 32 l).map svW) = true
  ·rw [if_pos h, if_pos h, s_vaText_eq h, Option.bind_some, eqW]
   by_cases ht : textV ((cutL 32 l).map svW) = l
   ·rw [decide_eq_true ht, if_pos rfl, if_pos ht]
   ·rw [decide_eq_false ht, if_neg (by decide), if_neg ht]
  ·rw [if_neg h, if_neg h]
 ·intro i hi out ho
  have eg : ((cutL 32 l).map mkB).getD i default = mkB (cutL 32 l)[i] := getM _ hi
  have hw := s_word (mkB l) ((cutL 32 l).map mkB) out i (cutL 32 l)[i] (vaN (cutL 32 l)[i]) eg
  simp only [s_ParseValue_l1_S, Int.toNat_natCast, eg]
  rw [List.length_map, if_pos (lt_nat hi), ckT (by omega), s_num, Option.bind_some, s_words, Option.bind_some, hw, Option.bind_some, ckT (by omega), wrS i (by omega)]
  unfold svW
  cases idxV (cutL 32 l)[i] <;> rfl
 ·intro out ho
  simp only [s_ParseValue_l1_S]
  rw [List.length_map, if_neg (not_lt_nat _)]
/-! ### Both -/
theorem sv_all {L : List (List UInt8)} (h : progB (L.map svW) = true) : ∀ w ∈ L, okOp (svW w).1 (svW w).2 = true :=
 fun w hw => (prog_ok h).2 _ (List.mem_map_of_mem hw)
theorem sv_join {L : List (List UInt8)} (h : progB (L.map svW) = true) : textV (L.map svW) = Lib.join L [32] := by
 unfold textV
 congr 1
 rw [List.map_map]
 conv => rhs; rw [← List.map_id L]
 exact List.map_congr_left fun w hw => sv_text (sv_all h w hw)
theorem vparse_both (l : List UInt8) (hl : l.length ≤ 1048576) : ∃ p t, i_ParseValue (mkB l) = some (p, t) ∧ s_ParseValue (mkB l) = some (p, t) ∧ p.length ≤ 40 := by
 rw [i_vparse l hl, s_vparse l hl]
 by_cases h : progB ((cutL 32 l).map svW) = true
 ·have ht : trv ivW (cutL 32 l) = some ((cutL 32 l).map svW) := trv_all ivW svW _ fun w hw => by
   have := cutL_mem 32 l w hw
   exact iv_of_sv (by omega) (sv_all h w hw)
  have hj : textV ((cutL 32 l).map svW) = l := (sv_join h).trans (join_cutL 32 l)
  rw [ht, if_pos h, if_pos hj]
  simp only
  rw [if_pos h]
  exact ⟨_, _, rfl, rfl, (prog_ok h).1.2⟩
 ·rw [if_neg h]
  refine ⟨[], false, ?_, rfl, by simp⟩
  cases ht : trv ivW (cutL 32 l) with
  | none => rfl
  | some p =>
   simp only
   rw [if_neg]
   intro hp
   have hm := (trv_mem ivW _ _ ht).1
   have ok := (prog_ok hp).2
   have e : trv ivW (cutL 32 l) = some ((cutL 32 l).map svW) := trv_all ivW svW _ fun w hw => by
    obtain ⟨q, hq, hf⟩ := hm w hw
    rw [hf, sv_of_iv hf (ok q hq)]
   rw [ht] at e
   exact h (by rw [← Option.some.inj e]; exact hp)

end Go.Proofs.YtaogbcdlpgfplaaDoor
