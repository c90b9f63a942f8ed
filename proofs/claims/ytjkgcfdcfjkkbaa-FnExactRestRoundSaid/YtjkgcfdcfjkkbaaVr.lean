/- The round at which values rest: program and reference agree. Conditions: none. -/
import Derived.Test.YtjkgcfdcfjkkbaaL6
import Derived.Test.YtjkgcfdcfjkkbaaVrA
import Derived.Test.YtjkgcfdcfjkkbaaVq
import Derived.Test.YtjkgcfdcfjkkbaaHas
namespace Go.Proofs.Ytjkgcfdcfjkkbaa
open Go Dv
set_option linter.unusedSimpArgs false
set_option linter.unusedVariables false
set_option maxRecDepth 100000


theorem equal_eq (a b : List Int) (ha : a.length < 1099511627776) : g_slices_Equal_Sint_int a b = some (decide (a = b)) := by
 unfold g_slices_Equal_Sint_int g_slices_Equal_Sint_int_l0
 by_cases hl : a.length = b.length
 ·rw [if_pos (by omega)]
  have key := itO_all (fun v => g_slices_Equal_Sint_int_l0_S a b v) (fun i => (i : Int)) a.length (fun i => decide (a.getD i default = b.getD i default)) (.inl ()) (.inr ()) ?_ ?_
  ·simp only [Int.natCast_zero] at key
   rw [key, all_same a b hl]
   by_cases he : a = b <;> simp [he]
  ·intro i hi
   simp only [g_slices_Equal_Sint_int_l0_S, Int.toNat_natCast]
   rw [if_pos (lt_nat hi), ckT (by omega), ckT (by omega), wrS i (by omega)]
   by_cases he : a.getD i default = b.getD i default
   ·rw [if_pos he, decide_eq_true he]; rfl
   ·rw [if_neg he, decide_eq_false he]; rfl
  ·simp only [g_slices_Equal_Sint_int_l0_S]
   rw [if_neg (not_lt_nat _)]
 ·rw [if_neg (by omega)]
  have : ¬ a = b := fun e => hl (by rw [e])
  simp [this]
theorem rest_loop {E : List (List (Int × Int))} {ids ins : List Int} (h : isNet E ids ins = true) (prog : List (Int × Int)) (hp : progB prog = true) (most : Int) (hm : 0 ≤ most ∧ most ≤ 2000) :
  ∀ (n k : Nat) (values : List Int), (n : Int) + k = most + 1 → values.length = E.length → (∀ x ∈ values, -1000000 ≤ x ∧ x ≤ 1000000) →
  ∃ r, i_RestRound_l0 prog E ids ins most (values, (k : Int)) = some r ∧ s_RestRound_l0 prog E ids ins most (values, (k : Int)) = some r := by
 have hlen := net_len h
 intro n
 induction n with
 | zero =>
  intro k values hk hq hr
  refine ⟨.inr (), ?_, ?_⟩
  ·unfold i_RestRound_l0
   refine itO_inr ?_
   simp only [i_RestRound_l0_S]
   rw [wr64 _ (by omega), if_neg (by omega)]
  ·unfold s_RestRound_l0
   refine itO_inr ?_
   simp only [s_RestRound_l0_S]
   rw [if_neg (by omega)]
 | succ n ih =>
  intro k values hk hq hr
  obtain ⟨out, o1, o2, o3, o4⟩ := step_both h prog hp ((k + 1 : Nat) : Int) values hq hr
  have c : out.length < 1099511627776 := by omega
  by_cases he : out = values
  ·refine ⟨.inl (k : Int), ?_, ?_⟩
   ·unfold i_RestRound_l0
    refine itO_inr ?_
    simp only [i_RestRound_l0_S]
    rw [wr64 (most + 1) (by omega), if_pos (by omega), wrS k (by omega), o1, Option.bind_some, equal_eq _ _ c, Option.bind_some, decide_eq_true he, if_pos rfl]
   ·unfold s_RestRound_l0
    refine itO_inr ?_
    simp only [s_RestRound_l0_S]
    rw [if_pos (by omega), wrS k (by omega), o2, Option.bind_some, l1Same_eq _ _ c, Option.bind_some, decide_eq_true he, if_pos rfl]
  ·obtain ⟨r, r1, r2⟩ := ih (k + 1) out (by omega) o3 o4
   refine ⟨r, ?_, ?_⟩
   ·unfold i_RestRound_l0 at r1 ⊢
    rw [itO_inl (s' := (out, ((k + 1 : Nat) : Int)))]
    ·exact r1
    ·simp only [i_RestRound_l0_S]
     rw [wr64 (most + 1) (by omega), if_pos (by omega), wrS k (by omega), o1, Option.bind_some, equal_eq _ _ c, Option.bind_some, decide_eq_false he, if_neg (by decide)]
   ·unfold s_RestRound_l0 at r2 ⊢
    rw [itO_inl (s' := (out, ((k + 1 : Nat) : Int)))]
    ·exact r2
    ·simp only [s_RestRound_l0_S]
     rw [if_pos (by omega), wrS k (by omega), o2, Option.bind_some, l1Same_eq _ _ c, Option.bind_some, decide_eq_false he, if_neg (by decide)]
theorem rest_both (prog : List (Int × Int)) (E : List (List (Int × Int))) (ids ins start : List Int) (most : Int) (hE : ShortE E) (h2 : ids.length < 1099511627776) (h3 : ins.length < 1099511627776) (h4 : start.length < 1099511627776) :
  ∃ x ok, s_RestRound prog E ids ins start most = some (x, ok) ∧ i_RestRound prog E ids ins start most = some (x, ok) := by
 obtain ⟨e1, e2⟩ := vok_both prog E ids ins start hE h2 h3 h4
 unfold s_RestRound i_RestRound s_maLong s_l1Own
 simp only [e1, e2, Option.bind_some]
 by_cases h : vokB prog E ids ins start = true
 ·rw [if_pos h, if_pos h]
  by_cases hm : inR most 0 2000 = true
  ·have hm' := inR_iff.1 hm
   obtain ⟨p1, p2, p3, p4⟩ := vok_parts h
   obtain ⟨r, r1, r2⟩ := rest_loop p2 prog p1 most hm' (most + 1).toNat 0 start (by omega) p3 p4
   rw [Int.natCast_zero] at r1 r2
   rw [if_pos hm, if_pos hm, ckT (by omega), Option.bind_some, r1, r2]
   cases r with
   | inl k => exact ⟨k, true, rfl, rfl⟩
   | inr _ => exact ⟨0, false, rfl, rfl⟩
  ·rw [if_neg hm, if_neg hm]; exact ⟨0, false, rfl, rfl⟩
 ·rw [if_neg h, if_neg h]; exact ⟨0, false, rfl, rfl⟩

end Go.Proofs.Ytjkgcfdcfjkkbaa
