/- Texts of problems: program and reference agree. Conditions: those in each lemma. -/
import Derived.Test.YtaogbcdlpgfplaaDoorL6
import Derived.Test.YtaogbcdlpgfplaaDoorTxn
namespace Go.Proofs.YtaogbcdlpgfplaaDoor
open Go Dv
set_option linter.unusedSimpArgs false
set_option linter.unusedVariables false
set_option maxRecDepth 100000


theorem confs_cfg {l : List (List Int)} {s n : Int} (h : confs l s n = true) (hs : s ≤ 4) (hn : n ≤ 8) (hl : l.length ≤ 1048576) : CfgOk l := by
 refine ⟨hl, fun x hx => ?_⟩
 obtain ⟨i, hi, rfl⟩ := List.getElem_of_mem hx
 have := range_all.1 h i hi
 unfold confAt at this
 rw [getD_get _ _ hi] at this
 simp only [Bool.and_eq_true, decide_eq_true_eq] at this
 have hlen := this.1.1.1
 have hall := this.1.2
 refine ⟨⟨by omega, fun k hk => ?_⟩, by omega⟩
 unfold allIn at hall
 have := inR_iff.1 (List.all_eq_true.1 hall k hk)
 omega
theorem isProb_cfg {a d : Int} {ns es : List (List Int)} (h : isProb a d ns es = true) (hn : ns.length ≤ 1048576) (he : es.length ≤ 1048576) : (1 ≤ a ∧ a ≤ 8) ∧ (1 ≤ d ∧ d ≤ 4) ∧ CfgOk ns ∧ CfgOk es := by
 simp only [isProb, Bool.and_eq_true] at h
 have ha := inR_iff.1 h.1.1.1
 have hd := inR_iff.1 h.1.1.2
 exact ⟨ha, hd, confs_cfg h.1.2 hd.2 ha.2 hn, confs_cfg h.2 (by decide) ha.2 he⟩
theorem i_rows (f : List ByteArray → Int → Option ((List ByteArray × Int) ⊕ List ByteArray)) (w : List UInt8) (hw : w.length ≤ 7) (l : List (List Int)) (h : CfgOk l)
  (hf : ∀ (L : List ByteArray) (i : Nat), i < l.length → L.length + 1 < 1099511627776 → f L (i : Int) = some (.inl (L ++ [mkB (lineL w (l.getD i default))], ((i + 1 : Nat) : Int)))) (he : ∀ L, f L (l.length : Int) = some (.inr L)) (L0 : List ByteArray) (h0 : L0.length ≤ 2097152) :
  itO (fun v => f v.1 v.2) (L0, 0) = some (L0 ++ l.map fun x => mkB (lineL w x)) := by
 have key := itO_for (fun v => f v.1 v.2) (fun i => (L0 ++ (l.take i).map (fun x => mkB (lineL w x)), (i : Int))) l.length (L0 ++ l.map fun x => mkB (lineL w x)) ?_ ?_
 ·simpa using key
 ·intro i hi
  have hl := h.len
  have hlen : (L0 ++ (l.take i).map (fun x => mkB (lineL w x))).length + 1 < 1099511627776 := by
   rw [List.length_append, List.length_map, List.length_take]; omega
  simp only
  rw [hf _ i hi hlen, List.take_succ_eq_append_getElem hi, List.map_append, getD_get _ _ hi, List.append_assoc]
  rfl
 ·simp only
  rw [List.take_length, he]
theorem mkB_BL (L : List (List UInt8)) : (L.map mkB).map (fun b => b.data.toList) = L := by
 rw [List.map_map]
 have : ((fun b : ByteArray => b.data.toList) ∘ mkB) = id := funext fun l => rfl
 rw [this, List.map_id]
theorem lines_len {L : List (List UInt8)} (h : ∀ x ∈ L, x.length ≤ 119) : ((L.map (· ++ [10])).flatten).length ≤ 120 * L.length :=
 flat_len (fun x : List UInt8 => x ++ [10]) 120 L (fun x hx => by have := h x hx; simp; omega)
theorem linesP_ok {a d : Int} {ns es : List (List Int)} (ha : 0 ≤ a ∧ a ≤ 8) (hd : 0 ≤ d ∧ d ≤ 4) (hn : CfgOk ns) (he : CfgOk es) : (∀ x ∈ linesP a d ns es, x.length ≤ 119) ∧ (linesP a d ns es).length ≤ 2097153 := by
 have h1 := hn.len
 have h2 := he.len
 refine ⟨fun x hx => ?_, by unfold linesP; simp; omega⟩
 unfold linesP at hx
 rcases List.mem_cons.1 hx with rfl | hx
 ·refine line_short (by decide) ⟨⟨by simp, fun k hk => ?_⟩, by simp⟩
  simp at hk
  omega
 ·rcases List.mem_append.1 hx with hx | hx
  ·obtain ⟨y, hy, rfl⟩ := List.mem_map.1 hx
   exact line_short (by decide) (hn.row y hy)
  ·obtain ⟨y, hy, rfl⟩ := List.mem_map.1 hx
   exact line_short (by decide) (he.row y hy)
theorem lin_ad {a d : Int} (ha : 0 ≤ a ∧ a ≤ 8) (hd : 0 ≤ d ∧ d ≤ 4) : Lin [a, d] := ⟨by simp, fun k hk => by simp at hk; omega⟩
theorem i_text {a d : Int} {ns es : List (List Int)} (ha : 0 ≤ a ∧ a ≤ 8) (hd : 0 ≤ d ∧ d ≤ 4) (hn : CfgOk ns) (he : CfgOk es) : i_problemText a d ns es = some (mkB (textP a d ns es)) := by
 unfold i_problemText
 have eP : ({ data := #[112, 114, 111, 98, 108, 101, 109] } : ByteArray) = mkB probW := rfl
 have e10 : ({ data := #[10] } : ByteArray) = mkB [10] := rfl
 rw [eP, i_line probW [a, d] (lin_ad ha hd) (by decide), Option.bind_some]
 have k0 : i_problemText_l0 a d ns es ([mkB (lineL probW [a, d])], 0) = some ([mkB (lineL probW [a, d])] ++ ns.map fun x => mkB (lineL nodeW x)) := by
  unfold i_problemText_l0
  refine i_rows (fun L t => i_problemText_l0_S a d ns es L t) nodeW (by decide) ns hn (fun L i hi hL => ?_) (fun L => ?_) _ (by simp)
  ·have hr := (hn.at hi).1
   have eN : ({ data := #[110, 111, 100, 101] } : ByteArray) = mkB nodeW := rfl
   simp only [i_problemText_l0_S, Int.toNat_natCast]
   rw [if_pos (lt_nat hi), ckT (by omega), eN, i_line nodeW _ (by rw [getD_get _ _ hi]; exact hr) (by decide), Option.bind_some, ckT hL, wrS i (by have := hn.len; omega)]
  ·simp only [i_problemText_l0_S]
   rw [if_neg (not_lt_nat _)]
 rw [k0, Option.bind_some]
 have k1 : i_problemText_l1 es ([mkB (lineL probW [a, d])] ++ ns.map (fun x => mkB (lineL nodeW x)), 0) = some (([mkB (lineL probW [a, d])] ++ ns.map fun x => mkB (lineL nodeW x)) ++ es.map fun x => mkB (lineL edgeW x)) := by
  unfold i_problemText_l1
  refine i_rows (fun L t => i_problemText_l1_S es L t) edgeW (by decide) es he (fun L i hi hL => ?_) (fun L => ?_) _ (by have := hn.len; simp; omega)
  ·have hr := (he.at hi).1
   have eN : ({ data := #[101, 100, 103, 101] } : ByteArray) = mkB edgeW := rfl
   simp only [i_problemText_l1_S, Int.toNat_natCast]
   rw [if_pos (lt_nat hi), ckT (by omega), eN, i_line edgeW _ (by rw [getD_get _ _ hi]; exact hr) (by decide), Option.bind_some, ckT hL, wrS i (by have := he.len; omega)]
  ·simp only [i_problemText_l1_S]
   rw [if_neg (not_lt_nat _)]
 rw [k1, Option.bind_some]
 have eL : ([mkB (lineL probW [a, d])] ++ ns.map fun x => mkB (lineL nodeW x)) ++ es.map (fun x => mkB (lineL edgeW x)) = (linesP a d ns es).map mkB := by
  unfold linesP
  simp [List.map_append, Function.comp_def]
 obtain ⟨hs, hc⟩ := linesP_ok ha hd hn he
 have ht := lines_len hs
 have hj : joinB ((linesP a d ns es).map mkB) (mkB [10]) = mkB (Lib.join (linesP a d ns es) [10]) := by
  unfold joinB
  rw [mkB_BL]
  rfl
 have hjl := join_lines (linesP a d ns es) (by unfold linesP; simp)
 have hlen : (Lib.join (linesP a d ns es) [10]).length + 1 ≤ 120 * 2097153 := by
  have := congrArg List.length hjl
  rw [List.length_append, List.length_cons, List.length_nil] at this
  omega
 rw [eL, e10, hj, List.length_map, size_mk, size_mk, ckT (by omega), ckT (by simp; omega), mk_app, hjl]
 rfl
theorem s_rows (f : ByteArray → Int → Option ((ByteArray × Int) ⊕ ByteArray)) (w : List UInt8) (hw : w.length ≤ 7) (l : List (List Int)) (h : CfgOk l)
  (hf : ∀ (b : ByteArray) (i : Nat), i < l.length → b.size ≤ 1000000000 → f b (i : Int) = some (.inl (b ++ mkB (lineL w (l.getD i default) ++ [10]), ((i + 1 : Nat) : Int)))) (he : ∀ b, f b (l.length : Int) = some (.inr b)) (b0 : List UInt8) (h0 : b0.length ≤ 500000000) :
  itO (fun v => f v.1 v.2) (mkB b0, 0) = some (mkB (b0 ++ ((l.map (lineL w)).map (· ++ [10])).flatten)) := by
 have key := itO_for (fun v => f v.1 v.2) (fun i => (mkB (b0 ++ (((l.take i).map (lineL w)).map (· ++ [10])).flatten), (i : Int))) l.length (mkB (b0 ++ ((l.map (lineL w)).map (· ++ [10])).flatten)) ?_ ?_
 ·simpa using key
 ·intro i hi
  have hl := h.len
  have hlen := lines_len (L := (l.take i).map (lineL w)) (fun x hx => by
   obtain ⟨y, hy, rfl⟩ := List.mem_map.1 hx
   exact line_short hw (h.row y (List.mem_of_mem_take hy)))
  rw [List.length_map, List.length_take] at hlen
  have hsz : (mkB (b0 ++ (((l.take i).map (lineL w)).map (· ++ [10])).flatten)).size ≤ 1000000000 := by
   rw [size_mk, List.length_append]; omega
  simp only
  rw [hf _ i hi hsz, List.take_succ_eq_append_getElem hi, List.map_append, List.map_append, List.flatten_append, getD_get _ _ hi, mk_app, List.append_assoc]
  congr 4
  simp
 ·simp only
  rw [List.take_length, he]
theorem s_text {a d : Int} {ns es : List (List Int)} (ha : 0 ≤ a ∧ a ≤ 8) (hd : 0 ≤ d ∧ d ≤ 4) (hn : CfgOk ns) (he : CfgOk es) : s_prText a d ns es = some (mkB (textP a d ns es)) := by
 unfold s_prText
 have eP : ({ data := #[112, 114, 111, 98, 108, 101, 109] } : ByteArray) = mkB probW := rfl
 have e10 : ({ data := #[10] } : ByteArray) = mkB [10] := rfl
 have hl0 := line_short (w := probW) (x := [a, d]) (by decide) ⟨lin_ad ha hd, by simp⟩
 have hn0 := hn.len
 have he0 := he.len
 rw [eP, s_line probW [a, d] (lin_ad ha hd) (by decide), Option.bind_some, e10, size_mk, size_mk, ckT (by simp; omega), mk_app]
 have stp : ∀ (w x : List UInt8) (b : ByteArray), x.length ≤ 119 → b.size ≤ 1000000000 → (mkB x).size + (mkB [10]).size < 1099511627776 ∧ b.size + (mkB x ++ mkB [10]).size < 1099511627776 := fun w x b h1 h2 => by
  rw [mk_app, size_mk, size_mk, size_mk]
  simp only [List.length_append, List.length_cons, List.length_nil]
  omega
 have k0 : s_prText_l0 a d ns es (mkB (lineL probW [a, d] ++ [10]), 0) = some (mkB ((lineL probW [a, d] ++ [10]) ++ ((ns.map (lineL nodeW)).map (· ++ [10])).flatten)) := by
  unfold s_prText_l0
  refine s_rows (fun b t => s_prText_l0_S a d ns es b t) nodeW (by decide) ns hn (fun b i hi hb => ?_) (fun b => ?_) _ (by rw [List.length_append]; simp; omega)
  ·have hr : Lin (ns.getD i default) ∧ (ns.getD i default).length ≤ 8 := by rw [getD_get _ _ hi]; exact hn.at hi
   have hx := stp nodeW (lineL nodeW (ns.getD i default)) b (line_short (by decide) hr) hb
   have eN : ({ data := #[110, 111, 100, 101] } : ByteArray) = mkB nodeW := rfl
   simp only [s_prText_l0_S, Int.toNat_natCast]
   rw [if_pos (lt_nat hi), ckT (by omega), eN, s_line nodeW _ hr.1 (by decide), Option.bind_some, e10, ckT hx.1, ckT hx.2, wrS i (by omega), mk_app]
  ·simp only [s_prText_l0_S]
   rw [if_neg (not_lt_nat _)]
 have hflat := lines_len (L := ns.map (lineL nodeW)) (fun x hx => by
  obtain ⟨y, hy, rfl⟩ := List.mem_map.1 hx
  exact line_short (by decide) (hn.row y hy))
 rw [List.length_map] at hflat
 rw [k0, Option.bind_some]
 have k1 : s_prText_l1 es (mkB ((lineL probW [a, d] ++ [10]) ++ ((ns.map (lineL nodeW)).map (· ++ [10])).flatten), 0) = some (mkB (((lineL probW [a, d] ++ [10]) ++ ((ns.map (lineL nodeW)).map (· ++ [10])).flatten) ++ ((es.map (lineL edgeW)).map (· ++ [10])).flatten)) := by
  unfold s_prText_l1
  refine s_rows (fun b t => s_prText_l1_S es b t) edgeW (by decide) es he (fun b i hi hb => ?_) (fun b => ?_) _ (by rw [List.length_append, List.length_append]; simp only [List.length_cons, List.length_nil]; omega)
  ·have hr : Lin (es.getD i default) ∧ (es.getD i default).length ≤ 8 := by rw [getD_get _ _ hi]; exact he.at hi
   have hx := stp edgeW (lineL edgeW (es.getD i default)) b (line_short (by decide) hr) hb
   have eN : ({ data := #[101, 100, 103, 101] } : ByteArray) = mkB edgeW := rfl
   simp only [s_prText_l1_S, Int.toNat_natCast]
   rw [if_pos (lt_nat hi), ckT (by omega), eN, s_line edgeW _ hr.1 (by decide), Option.bind_some, e10, ckT hx.1, ckT hx.2, wrS i (by omega), mk_app]
  ·simp only [s_prText_l1_S]
   rw [if_neg (not_lt_nat _)]
 rw [k1, Option.bind_some]
 congr 2
 unfold textP linesP
 simp [List.map_append, List.flatten_append, List.append_assoc]
theorem text_both (a d : Int) (ns es : List (List Int)) (sn : Short ns) (se : Short es) (hn : ns.length ≤ 1048576) (he : es.length ≤ 1048576) :
  ∃ x t, s_ProblemText a d ns es = some (x, t) ∧ i_ProblemText a d ns es = some (x, t) := by
 unfold s_ProblemText i_ProblemText
 rw [ckT sn, ckT se, ckT sn, ckT se]
 by_cases hp : isProb a d ns es = true
 ·obtain ⟨ha, hd, cn, ce⟩ := isProb_cfg hp hn he
  rw [if_pos hp, if_pos hp, i_text (by omega) (by omega) cn ce, s_text (by omega) (by omega) cn ce]
  exact ⟨_, _, rfl, rfl⟩
 ·rw [if_neg hp, if_neg hp]
  exact ⟨_, _, rfl, rfl⟩

end Go.Proofs.YtaogbcdlpgfplaaDoor
