/- Texts of value programs: program and reference agree. Conditions: those in each lemma. -/
import Derived.Test.YtaogbcdlpgfplaaDoorL6
import Derived.Test.YtaogbcdlpgfplaaDoorSpl
import Derived.Test.YtaogbcdlpgfplaaDoorVtg
namespace Go.Proofs.YtaogbcdlpgfplaaDoor
open Go Dv
set_option linter.unusedSimpArgs false
set_option linter.unusedVariables false
set_option maxRecDepth 100000


def wordsAll : List UInt8 := [111, 119, 110, 32, 105, 100, 32, 100, 101, 103, 114, 101, 101, 32, 105, 110, 112, 117, 116, 32, 114, 111, 117, 110, 100, 32, 108, 101, 97, 115, 116, 32, 103, 114, 101, 97, 116, 101, 115, 116, 32, 115, 117, 109, 32, 102, 114, 101, 101, 32, 99, 111, 117, 110, 116, 32, 98, 101, 108, 111, 119, 32, 97, 100, 100, 32, 115, 117, 98, 32, 109, 105, 110, 32, 109, 97, 120, 32, 108, 101, 115, 115, 32, 101, 113, 117, 97, 108, 32, 105, 102]
/-- The words of the operations but the first. -/
def wordsV : List (List UInt8) := [[111, 119, 110], [105, 100], [100, 101, 103, 114, 101, 101], [105, 110, 112, 117, 116], [114, 111, 117, 110, 100], [108, 101, 97, 115, 116], [103, 114, 101, 97, 116, 101, 115, 116], [115, 117, 109], [102, 114, 101, 101], [99, 111, 117, 110, 116], [98, 101, 108, 111, 119], [97, 100, 100], [115, 117, 98], [109, 105, 110], [109, 97, 120], [108, 101, 115, 115], [101, 113, 117, 97, 108], [105, 102]]
theorem wordsV_cut : cutL 32 wordsAll = wordsV := by decide
theorem i_words : i_valueWords = some (wordsV.map mkB) := by
 unfold i_valueWords
 have e : ({ data := #[111, 119, 110, 32, 105, 100, 32, 100, 101, 103, 114, 101, 101, 32, 105, 110, 112, 117, 116, 32, 114, 111, 117, 110, 100, 32, 108, 101, 97, 115, 116, 32, 103, 114, 101, 97, 116, 101, 115, 116, 32, 115, 117, 109, 32, 102, 114, 101, 101, 32, 99, 111, 117, 110, 116, 32, 98, 101, 108, 111, 119, 32, 97, 100, 100, 32, 115, 117, 98, 32, 109, 105, 110, 32, 109, 97, 120, 32, 108, 101, 115, 115, 32, 101, 113, 117, 97, 108, 32, 105, 102] } : ByteArray) = mkB wordsAll := rfl
 have e2 : ({ data := #[32] } : ByteArray) = mkB [32] := rfl
 rw [e, e2, ckT (by rw [size_mk, size_mk]; decide), splitS_one, BL_mk, wordsV_cut]
theorem s_words : s_vaWords = some (mkB [] :: mkB [] :: wordsV.map mkB) := rfl
/-- An operation's text. -/
def opT (q : Int × Int) : List UInt8 := if q.1 = 1 then BL (itoaB q.2) else wordsV.getD (q.1 - 2).toNat []
def textV (prog : List (Int × Int)) : List UInt8 := Lib.join (prog.map opT) [32]
theorem okOp_at {q : Int × Int} (h : okOp q.1 q.2 = true) : (q.1 = 1 ∧ 0 ≤ q.2 ∧ q.2 ≤ 1000000) ∨ (2 ≤ q.1 ∧ q.1 ≤ 19 ∧ q.2 = 0) := by
 unfold okOp at h
 rw [Bool.and_eq_true] at h
 have h1 := inR_iff.1 h.1
 have h2 := inR_iff.1 h.2
 split at h2 <;> omega
theorem hts_ok : ∀ (l : List (Int × Int)) (h r : Nat), hts l h = some r → ∀ q ∈ l, okOp q.1 q.2 = true
 | [], _, _, _, q, hq => by cases hq
 | a :: l, h, r, e, q, hq => by
  unfold hts at e
  split at e
  ·rename_i hc
   rcases List.mem_cons.1 hq with rfl | hq
   ·exact hc.1
   ·exact hts_ok l _ r e q hq
  ·cases e
theorem prog_ok {prog : List (Int × Int)} (h : progB prog = true) : (1 ≤ prog.length ∧ prog.length ≤ 40) ∧ ∀ q ∈ prog, okOp q.1 q.2 = true := by
 unfold progB at h
 rw [Bool.and_eq_true] at h
 have h1 := inR_iff.1 h.1
 exact ⟨by omega, hts_ok prog 0 1 (by simpa using h.2)⟩
theorem wordsV_get {i : Nat} (h : i < 18) : (wordsV.map mkB).getD i default = mkB (wordsV.getD i []) := by
 have hl : wordsV.length = 18 := rfl
 rw [getD_get _ _ (by rw [List.length_map]; omega), List.getElem_map]
 congr 1
 rw [List.getD_eq_getElem?_getD, List.getElem?_eq_getElem (by omega)]; rfl
theorem wordsV_small : ∀ i, i < 18 → (wordsV.getD i []).length ≤ 8 := by decide
theorem opT_len {q : Int × Int} (h : okOp q.1 q.2 = true) : (opT q).length ≤ 13 := by
 unfold opT
 rcases okOp_at h with ⟨h1, h2, h3⟩ | ⟨h1, h2, h3⟩
 ·rw [if_pos h1, itoa_pos _ h2, BL_mk]
  exact digs_small _ (by omega)
 ·rw [if_neg (by omega)]
  have := wordsV_small (q.1 - 2).toNat (by omega)
  omega
theorem join_snoc (l : List (List UInt8)) (x s : List UInt8) (h : l ≠ []) : Lib.join (l ++ [x]) s = Lib.join l s ++ s ++ x := by
 cases l with
 | nil => exact absurd rfl h
 | cons a l =>
  rw [List.cons_append, Lib.join_cons, Lib.join_cons]
  unfold Lib.joinTail
  simp [List.append_assoc]
theorem join_take_len {prog : List (Int × Int)} (hq : ∀ q ∈ prog, okOp q.1 q.2 = true) (hl : prog.length ≤ 40) (i : Nat) : (Lib.join ((prog.take i).map opT) [32]).length ≤ 1000 := by
 have : ∀ l : List (Int × Int), (∀ q ∈ l, okOp q.1 q.2 = true) → Lib.lens (l.map opT) ≤ 13 * l.length := fun l => by
  induction l with
  | nil => intro _; simp [Lib.lens]
  | cons a l ih =>
   intro hh
   have h1 := ih fun q hq => hh q (List.mem_cons_of_mem _ hq)
   have h2 := opT_len (hh a List.mem_cons_self)
   unfold Lib.lens at h1 ⊢
   simp only [List.map_cons, List.sum_cons, List.length_cons]
   omega
 have h1 := this (prog.take i) fun q hq' => hq q (List.mem_of_mem_take hq')
 have h2 : (prog.take i).length ≤ 40 := by rw [List.length_take]; omega
 generalize prog.take i = l at h1 h2
 cases l with
 | nil => simp [Lib.join_nil]
 | cons a l =>
  rw [List.map_cons, Lib.join_length]
  simp only [List.map_cons, List.length_cons, List.length_map, List.length_nil] at h1 h2 ⊢
  omega
theorem s_text_step {prog : List (Int × Int)} (hl : 1 ≤ prog.length ∧ prog.length ≤ 40) (hq : ∀ q ∈ prog, okOp q.1 q.2 = true) (i : Nat) (hi : i < prog.length) :
  s_vaText_l0_S prog (mkB (Lib.join ((prog.take i).map opT) [32])) (i : Int) = some (.inl (mkB (Lib.join ((prog.take (i + 1)).map opT) [32]), ((i + 1 : Nat) : Int))) := by
 have hok := hq _ (List.getElem_mem hi)
 have hln := join_take_len hq hl.2 i
 have hop := opT_len hok
 have e32 : ({ data := #[32] } : ByteArray) = mkB [32] := rfl
 simp only [s_vaText_l0_S, Int.toNat_natCast]
 rw [if_pos (lt_nat hi), ckT (by omega)]
 have eg : prog.getD i default = prog[i] := getD_get _ _ hi
 simp only [fstD, sndD, eg]
 rw [List.take_succ_eq_append_getElem hi, List.map_append, e32, wrS i (by omega)]
 have hT : prog[i].1 = 1 → opT prog[i] = digs prog[i].2.toNat ∧ s_l1Num prog[i].2 = some (mkB (opT prog[i])) := fun h1 => by
  rcases okOp_at hok with ⟨_, h2, h3⟩ | ⟨h2, _, _⟩
  ·have : opT prog[i] = digs prog[i].2.toNat := by unfold opT; rw [if_pos h1, itoa_pos _ h2, BL_mk]
   exact ⟨this, by rw [num_eq _ (by omega), this]⟩
  ·omega
 have hW : ¬ prog[i].1 = 1 → (0 ≤ prog[i].1 ∧ prog[i].1.toNat < (mkB [] :: mkB [] :: wordsV.map mkB).length) ∧ (mkB [] :: mkB [] :: wordsV.map mkB).getD prog[i].1.toNat default = mkB (opT prog[i]) := fun h1 => by
  rcases okOp_at hok with ⟨h2, _⟩ | ⟨h2, h3, _⟩
  ·omega
  ·refine ⟨by simp [wordsV]; omega, ?_⟩
   have e : prog[i].1.toNat = (prog[i].1 - 2).toNat + 2 := by omega
   rw [e, List.getD_cons_succ, List.getD_cons_succ, wordsV_get (by omega)]
   unfold opT
   rw [if_neg h1]
 by_cases hi0 : i = 0
 ·subst hi0
  rw [if_neg (by omega)]
  have hE : Lib.join ((prog.take 0).map opT ++ List.map opT [prog[0]]) [32] = opT prog[0] := by simp [Lib.join_one]
  have hE0 : mkB (Lib.join ((prog.take 0).map opT) [32]) = mkB [] := rfl
  by_cases h1 : prog[0].1 = 1
  ·rw [if_pos h1, (hT h1).2, Option.bind_some, hE, hE0, ckT (by rw [size_mk, size_mk]; simp; omega), mk_app]; rfl
  ·rw [if_neg h1, s_words, Option.bind_some, ckT (hW h1).1, (hW h1).2, hE, hE0, ckT (by rw [size_mk, size_mk]; simp; omega), mk_app]; rfl
 ·have hne : (prog.take i).map opT ≠ [] := by
   intro h
   have := congrArg List.length h
   rw [List.length_map, List.length_take, Nat.min_eq_left (by omega), List.length_nil] at this
   exact hi0 this
  have hJ : Lib.join ((prog.take i).map opT ++ List.map opT [prog[i]]) [32] = Lib.join ((prog.take i).map opT) [32] ++ [32] ++ opT prog[i] := join_snoc _ _ _ hne
  rw [if_pos (by omega), hJ, ckT (by rw [size_mk, size_mk]; simp only [List.length_cons, List.length_nil]; omega), mk_app]
  by_cases h1 : prog[i].1 = 1
  ·rw [if_pos h1, (hT h1).2, Option.bind_some, ckT (by rw [size_mk, size_mk, List.length_append]; simp only [List.length_cons, List.length_nil]; omega), mk_app]
  ·rw [if_neg h1, s_words, Option.bind_some, ckT (hW h1).1, (hW h1).2, ckT (by rw [size_mk, size_mk, List.length_append]; simp only [List.length_cons, List.length_nil]; omega), mk_app]
theorem s_vaText_eq {prog : List (Int × Int)} (h : progB prog = true) : s_vaText prog = some (mkB (textV prog)) := by
 obtain ⟨hl, hq⟩ := prog_ok h
 unfold s_vaText s_vaText_l0
 have key := itO_for (fun v => s_vaText_l0_S prog v.1 v.2) (fun i => (mkB (Lib.join ((prog.take i).map opT) [32]), (i : Int))) prog.length (mkB (textV prog)) ?_ ?_
 ·rw [show ((mkB (Lib.join ((prog.take 0).map opT) [32]), ((0 : Nat) : Int)) : ByteArray × Int) = (({ data := #[] } : ByteArray), 0) from rfl] at key
  rw [key]; rfl
 ·intro i hi
  exact s_text_step hl hq i hi
 ·simp only [s_vaText_l0_S]
  rw [if_neg (not_lt_nat _), List.take_length]
  rfl
end Go.Proofs.YtaogbcdlpgfplaaDoor
