/- Texts read: the functions of program and reference. Conditions: those in each lemma. -/
import Derived.Test.YtaogbcdlpgfplaaDoorL6
import Derived.Test.YtaogbcdlpgfplaaDoorTxB
import Derived.Test.YtaogbcdlpgfplaaDoorLnr
namespace Go.Proofs.YtaogbcdlpgfplaaDoor
open Go Dv
set_option linter.unusedSimpArgs false
set_option linter.unusedVariables false
set_option maxRecDepth 100000


def gath {α β : Type} (g : Nat → β → α → Option β) : Nat → β → List α → Option β
 | _, b, [] => some b
 | t, b, x :: r => (g t b x).bind fun c => gath g (t + 1) c r
theorem gath_cons {α β : Type} (g : Nat → β → α → Option β) (t : Nat) (b : β) (x : α) (r : List α) : gath g t b (x :: r) = (g t b x).bind fun c => gath g (t + 1) c r := rfl
/-- A loop through a list that gathers and may stop. -/
theorem itO_gath {α β σ ρ : Type} (f : σ → Option (σ ⊕ ρ)) (mk : Nat → β → σ) (xs : List α) (g : Nat → β → α → Option β) (P : Nat → β → Prop) (bad : ρ) (fin : β → ρ)
  (h : ∀ (i : Nat) (b : β) (hi : i < xs.length), P i b → f (mk i b) = some (match g i b xs[i] with | some c => .inl (mk (i + 1) c) | none => .inr bad))
  (hP : ∀ (i : Nat) (b c : β) (hi : i < xs.length), P i b → g i b xs[i] = some c → P (i + 1) c)
  (e : ∀ b, P xs.length b → f (mk xs.length b) = some (.inr (fin b))) (b0 : β) (h0 : P 0 b0) :
  itO f (mk 0 b0) = some (match gath g 0 b0 xs with | some b => fin b | none => bad) := by
 have key : ∀ (k t : Nat) (b : β), k = xs.length - t → t ≤ xs.length → P t b → itO f (mk t b) = some (match gath g t b (xs.drop t) with | some b => fin b | none => bad) := by
  intro k
  induction k with
  | zero =>
   intro t b hk ht hb
   have : t = xs.length := by omega
   subst this
   rw [List.drop_length]
   exact itO_inr (e b hb)
  | succ k ih =>
   intro t b hk ht hb
   have hlt : t < xs.length := by omega
   have h1 := h t b hlt hb
   rw [List.drop_eq_getElem_cons hlt, gath_cons]
   cases hg : g t b xs[t] with
   | none => rw [hg] at h1; rw [itO_inr h1]; rfl
   | some c =>
    rw [hg] at h1
    rw [itO_inl h1, Option.bind_some]
    exact ih (t + 1) c (by omega) (by omega) (hP t b c hlt hb hg)
 have := key xs.length 0 b0 (by omega) (Nat.zero_le _) h0
 rwa [List.drop_zero] at this
/-! ### Bytes -/
theorem eqW (a b : List UInt8) : ((mkB a).toList == (mkB b).toList) = decide (a = b) := by
 rw [eq_bytes, Bool.eq_iff_iff, decide_eq_true_eq, decide_eq_true_eq]
 exact ⟨fun h => by rw [← BL_mk a, h, BL_mk], fun h => by rw [h]⟩
theorem getM (L : List (List UInt8)) {i : Nat} (h : i < L.length) : (L.map mkB).getD i default = mkB L[i] := by
 rw [getD_get _ _ (by rw [List.length_map]; exact h), List.getElem_map]
theorem ext_mk (l : List UInt8) (a b : Nat) : (mkB l).extract a b = mkB ((l.drop a).take (b - a)) := by
 apply BL_inj
 rw [BL_mk]
 show ((mkB l).extract a b).data.toList = _
 rw [ByteArray.data_extract]
 simp [mkB]
theorem at_mk (l : List UInt8) (i : Nat) (h : i < l.length) : atB (mkB l) (i : Int) = ((l[i].toNat : Nat) : Int) := by
 unfold atB mkB
 simp [h]
/-! ### Numbers -/
theorem s_read_loop (l : List UInt8) (hl : l.length ≤ 6) : s_l1Read_l0 (mkB l) (0, 0) = some (match spell 0 l with | some n => .inr (n : Int) | none => .inl ()) := by
 have hg : ∀ (r : List UInt8) (t a : Nat), gath (fun _ (a : Nat) (c : UInt8) => if 48 ≤ c.toNat ∧ c.toNat ≤ 57 then some (a * 10 + (c.toNat - 48)) else none) t a r = spell a r := by
  intro r
  induction r with
  | nil => intro t a; rfl
  | cons c r ih =>
   intro t a
   rw [gath_cons, spell_cons]
   by_cases h : 48 ≤ c.toNat ∧ c.toNat ≤ 57
   ·rw [if_pos h, if_pos h, Option.bind_some, ih]
   ·rw [if_neg h, if_neg h]; rfl
 have key := itO_gath (fun v => s_l1Read_l0_S (mkB l) v.1 v.2) (fun i (a : Nat) => ((a : Int), (i : Int))) l (fun _ (a : Nat) (c : UInt8) => if 48 ≤ c.toNat ∧ c.toNat ≤ 57 then some (a * 10 + (c.toNat - 48)) else none) (fun i a => a < 10 ^ i) (.inl ()) (fun a => .inr (a : Int)) ?_ ?_ ?_ 0 (by simp)
 ·rw [hg] at key
  unfold s_l1Read_l0
  rw [Int.natCast_zero] at key
  rw [key]
  cases spell 0 l <;> rfl
 ·intro i a hi ha
  have h6 : 10 ^ i ≤ 10 ^ 6 := Nat.pow_le_pow_right (by decide) (by omega)
  have h3 : (10 : Nat) ^ 6 = 1000000 := by decide
  simp only [s_l1Read_l0_S]
  rw [size_mk, if_pos (lt_nat hi), ckT (ix_nat hi), at_mk l i hi]
  have hb := l[i].toNat_lt
  generalize l[i].toNat = c at hb
  by_cases h1 : c < 48
  ·rw [if_pos (by omega), if_neg (by omega)]
  ·rw [if_neg (by omega)]
   by_cases h2 : 57 < c
   ·rw [if_pos (by omega), if_neg (by omega)]
   ·have hw : IntKind.u8.wrap ((c : Int) - 48) = ((c - 48 : Nat) : Int) := by
     unfold IntKind.wrap
     simp only [IntKind.signed, IntKind.bits]
     simp
     omega
    have hw2 : IntKind.i64.wrap (10 * (a : Int)) = 10 * (a : Int) := wr64 _ (by omega)
    have hw3 : IntKind.i64.wrap ((c - 48 : Nat) : Int) = ((c - 48 : Nat) : Int) := wr64 _ (by omega)
    rw [if_neg (by omega), if_pos (by omega), wrS i (by omega), hw, hw2, hw3, wr64 _ (by omega)]
    simp only
    congr 3
    omega
 ·intro i a c hi ha hc
  split at hc
  ·injection hc with hc
   rw [Nat.pow_succ]; omega
  ·cases hc
 ·intro a ha
  simp only [s_l1Read_l0_S]
  rw [size_mk, if_neg (not_lt_nat _)]
theorem s_read (l : List UInt8) : s_l1Read (mkB l) = some (match readD l with | some n => (n : Int) | none => -1) := by
 unfold s_l1Read readD
 rw [size_mk]
 by_cases h : inR (l.length : Int) 1 6 = true
 ·have h' := inR_iff.1 h
  have hne : l ≠ [] := fun e => by rw [e] at h'; simp at h'
  rw [if_pos h, ckT (by omega)]
  cases l with
  | nil => exact absurd rfl hne
  | cons c r =>
   have hat := at_mk (c :: r) 0 (by simp)
   have eat : atB (mkB (c :: r)) 0 = (c.toNat : Int) := by simpa using hat
   have ec : c.toNat = 48 ↔ (c :: r).head? = some 48 := by
    simp only [List.head?_cons, Option.some.injEq]
    exact ⟨fun e => UInt8.toNat_inj.1 e, fun e => by rw [e]; rfl⟩
   have fin : ((s_l1Read_l0 (mkB (c :: r)) (0, 0)).bind fun r1000_ => match r1000_ with | .inl q1000_ => some (-1) | .inr q1000_ => some q1000_) = some (match spell 0 (c :: r) with | some n => (n : Int) | none => -1) := by
    rw [s_read_loop _ (by omega)]
    cases spell 0 (c :: r) <;> rfl
   rw [eat]
   by_cases h0 : c.toNat = 48
   ·rw [if_pos (by omega)]
    by_cases h1 : (c :: r).length = 1
    ·rw [if_neg (by omega), if_pos ⟨hne, by omega, fun _ => h1⟩]
     exact fin
    ·rw [if_pos (by omega), if_neg (fun hh => h1 (hh.2.2 (ec.1 h0)))]
   ·rw [if_neg (by omega), if_pos ⟨hne, by omega, fun e => absurd (ec.2 e) h0⟩]
    exact fin
 ·rw [if_neg h, if_neg]
  rintro ⟨h1, h2, _⟩
  apply h
  refine inR_iff.2 ⟨?_, by omega⟩
  cases l with
  | nil => exact absurd rfl h1
  | cons c r => simp; omega
theorem mk_inj {a b : List UInt8} (h : mkB a = mkB b) : a = b := by rw [← BL_mk a, h, BL_mk]
theorem s_split_loop (c : UInt8) (l : List UInt8) (hl : l.length < 4294967296) : ∀ (rest pre cur : List UInt8) (out : List ByteArray), c ∉ cur → l = pre ++ cur ++ rest → out.length ≤ pre.length →
  ∃ out' fr, s_l1Split_l0 (mkB l) (c.toNat : Int) (out, (pre.length : Int), ((pre.length + cur.length : Nat) : Int)) = some (out', ((fr : Nat) : Int)) ∧ fr ≤ l.length ∧ out'.length ≤ l.length ∧ out' ++ [(mkB l).extract fr l.length] = out ++ (cutL c (cur ++ rest)).map mkB := by
 intro rest
 induction rest with
 | nil =>
  intro pre cur out hc hl0 ho
  rw [List.append_nil] at hl0 ⊢
  have hlen := congrArg List.length hl0
  rw [List.length_append] at hlen
  refine ⟨out, pre.length, ?_, by omega, by omega, ?_⟩
  ·unfold s_l1Split_l0
   refine itO_inr ?_
   simp only [s_l1Split_l0_S]
   rw [size_mk, if_neg (by omega)]
  ·rw [ext_mk, cutL_none c cur hc, hl0]
   simp
 | cons x rest ih =>
  intro pre cur out hc hl0 ho
  have hlen := congrArg List.length hl0
  rw [List.length_append, List.length_append, List.length_cons] at hlen
  have hi : pre.length + cur.length < l.length := by omega
  have hx : l[pre.length + cur.length] = x := by
   simp only [hl0]
   rw [List.getElem_append_right (by simp)]
   simp
  have ha := at_mk l _ hi
  rw [hx] at ha
  have hif : (atB (mkB l) ((pre.length + cur.length : Nat) : Int) = (c.toNat : Int)) ↔ x = c := by
   rw [ha]
   exact ⟨fun e => UInt8.toNat_inj.1 (by omega), fun e => by rw [e]⟩
  by_cases e : x = c
  ·obtain ⟨out', fr, h1, h2, h3, h4⟩ := ih (pre ++ cur ++ [c]) [] (out ++ [mkB cur]) (by simp) (by rw [hl0, e]; simp) (by simp; omega)
   refine ⟨out', fr, ?_, h2, h3, ?_⟩
   ·unfold s_l1Split_l0 at h1 ⊢
    rw [itO_inl (s' := (out ++ [mkB cur], ((pre ++ cur ++ [c]).length : Int), (((pre ++ cur ++ [c]).length + ([] : List UInt8).length : Nat) : Int)))]
    ·exact h1
    ·simp only [s_l1Split_l0_S]
     have hex : (mkB l).extract pre.length (pre.length + cur.length) = mkB cur := by
      rw [ext_mk, hl0]
      simp
     rw [size_mk, if_pos (lt_nat hi), ckT (ix_nat hi), if_pos (hif.2 e), ckT (by omega), ckT (by omega), Int.toNat_natCast, Int.toNat_natCast, ckT (by omega), ckT (by omega), hex, wrS _ (by omega)]
     have : (pre ++ cur ++ [c]).length = pre.length + cur.length + 1 := by simp; omega
     rw [this]
     rfl
   ·rw [h4, e, cutL_app c cur rest hc]
    simp
  ·obtain ⟨out', fr, h1, h2, h3, h4⟩ := ih pre (cur ++ [x]) out (fun hm => by
    rcases List.mem_append.1 hm with hm | hm
    ·exact hc hm
    ·exact e (List.mem_singleton.1 hm).symm) (by rw [hl0]; simp) ho
   refine ⟨out', fr, ?_, h2, h3, ?_⟩
   ·unfold s_l1Split_l0 at h1 ⊢
    rw [itO_inl (s' := (out, (pre.length : Int), ((pre.length + (cur ++ [x]).length : Nat) : Int)))]
    ·exact h1
    ·simp only [s_l1Split_l0_S]
     rw [size_mk, if_pos (lt_nat hi), ckT (ix_nat hi), if_neg (fun h => e (hif.1 h)), wrS _ (by omega)]
     have : pre.length + (cur ++ [x]).length = pre.length + cur.length + 1 := by simp; omega
     rw [this]
   ·rw [h4]; simp
theorem s_split (c : UInt8) (l : List UInt8) (hl : l.length < 4294967296) : s_l1Split (mkB l) (c.toNat : Int) = some ((cutL c l).map mkB) := by
 obtain ⟨out, fr, h1, h2, h3, h4⟩ := s_split_loop c l hl l [] [] [] (by simp) rfl (Nat.le_refl _)
 unfold s_l1Split
 rw [show (([], 0, 0) : List ByteArray × Int × Int) = ([], (([] : List UInt8).length : Int), ((([] : List UInt8).length + ([] : List UInt8).length : Nat) : Int)) from rfl, h1, Option.bind_some]
 rw [size_mk, ckT (by simp only; omega), Int.toNat_natCast, ckT (by omega), ckT (by simp only; omega), h4]
 rfl

end Go.Proofs.YtaogbcdlpgfplaaDoor
