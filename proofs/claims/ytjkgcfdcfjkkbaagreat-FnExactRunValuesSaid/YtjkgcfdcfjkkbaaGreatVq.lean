/- Value programs run, as plain functions: the values after a round agree. Conditions: none. -/
import Derived.Test.YtjkgcfdcfjkkbaaGreatL6
import Derived.Test.YtjkgcfdcfjkkbaaGreatVp
import Derived.Test.YtjkgcfdcfjkkbaaGreatVpA
namespace Go.Proofs.YtjkgcfdcfjkkbaaGreat
open Go Dv
set_option linter.unusedSimpArgs false
set_option linter.unusedVariables false
set_option maxRecDepth 100000


theorem ckB {c : Prop} [Decidable c] {o : Option Int} {f : Int → Option ((List Int × Int) ⊕ List Int)} : (ck c o).bind f = ck c (o.bind f) := by
 unfold ck; split <;> rfl
theorem iteB {c : Prop} [Decidable c] {o p : Option Int} {f : Int → Option ((List Int × Int) ⊕ List Int)} : (if c then o else p).bind f = if c then o.bind f else p.bind f := by
 split <;> rfl
theorem s_step (own id input round : Int) (near : List Int) (prog : List (Int × Int)) (st : List Int) (t : Nat) (ht : t < prog.length) (hl : prog.length < 1000) (hk : prog[t].1 ≤ 19) (hn : nd prog[t].1 ≤ st.length) (hs : st.length < 1000) :
  s_vaEval_l0_S prog own id input round near st (t : Int) = (sOp own id input round near prog[t].1 prog[t].2 (st.drop (st.length - nd prog[t].1))).bind fun y => some (.inl (st.take (st.length - nd prog[t].1) ++ [clipV y], ((t + 1 : Nat) : Int))) := by
 have e1 : IntKind.i64.wrap ((st.length : Int) - (nd prog[t].1 : Int)) = ((st.length - nd prog[t].1 : Nat) : Int) := by rw [wr64 _ (by omega)]; omega
 have e2 : (st.drop (st.length - nd prog[t].1)).take (st.length - (st.length - nd prog[t].1)) = st.drop (st.length - nd prog[t].1) := List.take_of_length_le (by rw [List.length_drop]; omega)
 have e3 : 0 + (st.drop (st.length - nd prog[t].1)).length < 1099511627776 := by rw [List.length_drop]; omega
 have e4 : (st.take (st.length - nd prog[t].1)).length + 1 < 1099511627776 := by rw [List.length_take]; omega
 have e5 : (0 : Int) ≤ ((st.length - nd prog[t].1 : Nat) : Int) := by omega
 have e6 : st.length - nd prog[t].1 ≤ st.length := by omega
 simp only [s_vaEval_l0_S]
 rw [if_pos (lt_nat ht), ckT (ix_nat ht), Int.toNat_natCast]
 unfold fstD sndD
 rw [getD_get _ _ ht, s_needs_eq _ hk, Option.bind_some, e1, ckT e5, Int.toNat_natCast, ckT e6, e2, wrS t (by omega)]
 unfold s_l1Own
 rw [ckT e3, Option.bind_some]
 unfold sOp
 simp only [s_clip_eq, Option.bind_some, ckT e4, iteB, ckB]
theorem i_step (own id input round : Int) (near : List Int) (prog : List (Int × Int)) (st : List Int) (t : Nat) (ht : t < prog.length) (hl : prog.length < 1000) (hn : nd prog[t].1 ≤ st.length) (hs : st.length < 1000) :
  i_surroundings_eval_l0_S own id input round near prog st (t : Int) = (i_surroundings_result own id input round near prog[t].1 prog[t].2 (st.drop (st.length - nd prog[t].1))).bind fun y => some (.inl (st.take (st.length - nd prog[t].1) ++ [clipV y], ((t + 1 : Nat) : Int))) := by
 have e1 : IntKind.i64.wrap ((st.length : Int) - (nd prog[t].1 : Int)) = ((st.length - nd prog[t].1 : Nat) : Int) := by rw [wr64 _ (by omega)]; omega
 have e2 : (st.drop (st.length - nd prog[t].1)).take (st.length - (st.length - nd prog[t].1)) = st.drop (st.length - nd prog[t].1) := List.take_of_length_le (by rw [List.length_drop]; omega)
 have e4 : (st.take (st.length - nd prog[t].1)).length + 1 < 1099511627776 := by rw [List.length_take]; omega
 have e5 : (0 : Int) ≤ ((st.length - nd prog[t].1 : Nat) : Int) := by omega
 have e6 : st.length - nd prog[t].1 ≤ st.length := by omega
 simp only [i_surroundings_eval_l0_S]
 rw [if_pos (lt_nat ht), ckT (ix_nat ht), Int.toNat_natCast]
 unfold fstD sndD
 rw [getD_get _ _ ht, i_needs_eq, Option.bind_some, e1, ckT e5, Int.toNat_natCast, ckT e6, e2, wrS t (by omega)]
 simp only [ckT e4]
 rfl
theorem eval_loop (own id input round : Int) (near : List Int) (prog : List (Int × Int)) (hl : prog.length < 500) (hnl : near.length < 1099511627776) (hnr : ∀ x ∈ near, -1000000 ≤ x ∧ x ≤ 1000000) :
  ∀ (n t : Nat) (st : List Int), n = prog.length - t → t ≤ prog.length → st.length ≤ t → (∀ x ∈ st, -1000000 ≤ x ∧ x ≤ 1000000) → hts (prog.drop t) st.length = some 1 →
  ∃ r, i_surroundings_eval_l0 own id input round near prog (st, (t : Int)) = some [r] ∧ s_vaEval_l0 prog own id input round near (st, (t : Int)) = some [r] ∧ -1000000 ≤ r ∧ r ≤ 1000000 := by
 intro n
 induction n with
 | zero =>
  intro t st hn ht hst hr hh
  have : t = prog.length := by omega
  subst this
  rw [List.drop_length] at hh
  unfold hts at hh
  injection hh with hh
  match st, hh, hr with
  | [r], _, hr =>
   refine ⟨r, ?_, ?_, hr r (by simp)⟩
   ·unfold i_surroundings_eval_l0
    refine itO_inr ?_
    simp only [i_surroundings_eval_l0_S]
    rw [if_neg (not_lt_nat _)]
   ·unfold s_vaEval_l0
    refine itO_inr ?_
    simp only [s_vaEval_l0_S]
    rw [if_neg (not_lt_nat _)]
 | succ n ih =>
  intro t st hn ht hst hr hh
  have hlt : t < prog.length := by omega
  rw [List.drop_eq_getElem_cons hlt] at hh
  unfold hts at hh
  split at hh
  ·rename_i hc
   obtain ⟨hok, hnd⟩ := hc
   unfold okOp at hok
   rw [Bool.and_eq_true] at hok
   have hk := inR_iff.1 hok.1
   have hv : prog[t].1 ≠ 1 → prog[t].2 = 0 := fun h => by
    have := inR_iff.1 hok.2
    rw [if_neg h] at this; omega
   obtain ⟨y, y1, y2⟩ := opBoth own id input round near prog[t].1 prog[t].2 (st.drop (st.length - nd prog[t].1)) hk hv (by rw [List.length_drop]; omega) (fun x hx => hr x (List.mem_of_mem_drop hx)) hnl hnr
   have hi := i_step own id input round near prog st t hlt (by omega) hnd (by omega)
   have hs := s_step own id input round near prog st t hlt (by omega) hk.2 hnd (by omega)
   rw [y1, Option.bind_some] at hi
   rw [y2, Option.bind_some] at hs
   have hlen : (st.take (st.length - nd prog[t].1) ++ [clipV y]).length = st.length - nd prog[t].1 + 1 := by simp
   obtain ⟨r, r1, r2, r3⟩ := ih (t + 1) (st.take (st.length - nd prog[t].1) ++ [clipV y]) (by omega) (by omega) (by rw [hlen]; omega) (fun x hx => by
    rcases List.mem_append.1 hx with hx | hx
    ·exact hr x (List.mem_of_mem_take hx)
    ·rw [List.mem_singleton] at hx; subst hx; exact clip_in y) (by rw [hlen]; exact hh)
   refine ⟨r, ?_, ?_, r3⟩
   ·unfold i_surroundings_eval_l0 at r1 ⊢
    rw [itO_inl (s' := (st.take (st.length - nd prog[t].1) ++ [clipV y], ((t + 1 : Nat) : Int))) hi]; exact r1
   ·unfold s_vaEval_l0 at r2 ⊢
    rw [itO_inl (s' := (st.take (st.length - nd prog[t].1) ++ [clipV y], ((t + 1 : Nat) : Int))) hs]; exact r2
  ·cases hh
theorem eval_both (own id input round : Int) (near : List Int) (prog : List (Int × Int)) (hp : progB prog = true) (hnl : near.length < 1099511627776) (hnr : ∀ x ∈ near, -1000000 ≤ x ∧ x ≤ 1000000) :
  ∃ r, i_surroundings_eval own id input round near prog = some r ∧ s_vaEval prog own id input round near = some r ∧ -1000000 ≤ r ∧ r ≤ 1000000 := by
 unfold progB at hp
 rw [Bool.and_eq_true, beq_iff_eq] at hp
 have hl := inR_iff.1 hp.1
 obtain ⟨r, r1, r2, r3⟩ := eval_loop own id input round near prog (by omega) hnl hnr prog.length 0 [] rfl (Nat.zero_le _) (Nat.le_refl _) (by simp) (by rw [List.drop_zero]; exact hp.2)
 rw [Int.natCast_zero] at r1 r2
 refine ⟨r, ?_, ?_, r3⟩
 ·unfold i_surroundings_eval; rw [r1]; rfl
 ·unfold s_vaEval; rw [r2]; rfl
/-- The values of a node's neighbours. -/
def nearV (E : List (List (Int × Int))) (values : List Int) (v : Nat) : List Int := (E.getD v default).map fun e => values.getD e.1.toNat default
theorem net_port {E : List (List (Int × Int))} {ids ins : List Int} (h : isNet E ids ins = true) {v i : Nat} (hv : v < E.length) (hi : i < (E.getD v default).length) :
  0 ≤ ((E.getD v default).getD i default).1 ∧ ((E.getD v default).getD i default).1.toNat < E.length := by
 unfold isNet at h
 simp only [Bool.and_eq_true] at h
 have := range_all.1 h.2.2.2.2 v hv
 rw [nodeB_def, Bool.and_eq_true] at this
 have := range_all.1 this.2 i hi
 rw [portB_def, Bool.and_eq_true] at this
 have := inR_iff.1 this.1
 unfold fstD at this
 omega
theorem net_ins {E : List (List (Int × Int))} {ids ins : List Int} (h : isNet E ids ins = true) : ins.length = E.length := by
 unfold isNet at h
 simp only [Bool.and_eq_true, decide_eq_true_eq] at h
 have := h.2.2.1
 omega
theorem net_ids {E : List (List (Int × Int))} {ids ins : List Int} (h : isNet E ids ins = true) (h0 : 0 < (ids.length : Int)) : ids.length = E.length := by
 unfold isNet idsB at h
 simp only [Bool.and_eq_true, Bool.or_eq_true, decide_eq_true_eq] at h
 rcases h.2.1 with h | h
 ·omega
 ·have := h.1; omega
theorem net_deg {E : List (List (Int × Int))} {ids ins : List Int} (h : isNet E ids ins = true) {v : Nat} (hv : v < E.length) : (E.getD v default).length ≤ 6 := by
 unfold isNet at h
 simp only [Bool.and_eq_true] at h
 have := range_all.1 h.2.2.2.2 v hv
 rw [nodeB_def, Bool.and_eq_true, decide_eq_true_eq] at this
 exact this.1
theorem net_len {E : List (List (Int × Int))} {ids ins : List Int} (h : isNet E ids ins = true) : 1 ≤ E.length ∧ E.length ≤ 40 := by
 unfold isNet at h
 rw [Bool.and_eq_true] at h
 have := inR_iff.1 h.1
 omega
theorem map_snoc {α β : Type} (f : α → β) (xs : List α) (i : Nat) (h : i < xs.length) : (xs.take (i + 1)).map f = (xs.take i).map f ++ [f xs[i]] := by
 rw [List.take_succ_eq_append_getElem h, List.map_append]; rfl
theorem i_near {E : List (List (Int × Int))} {ids ins : List Int} (h : isNet E ids ins = true) (prog : List (Int × Int)) (round : Int) (values out : List Int) (hq : values.length = E.length) {v : Nat} (hv : v < E.length) :
  i_stepValues_l0 prog E ids ins round values out (v : Int) ([], 0) = some (nearV E values v) ∧ i_stepValues_l0_v1 prog E ids ins round values out (v : Int) ([], 0) = some (nearV E values v) := by
 have hd := net_deg h hv
 constructor
 ·have key := itO_for (fun x => i_stepValues_l0_S prog E ids ins round values out (v : Int) x.1 x.2) (fun i => (((E.getD v default).take i).map (fun e => values.getD e.1.toNat default), (i : Int))) (E.getD v default).length (nearV E values v) ?_ ?_
  ·exact key
  ·intro i hi
   have hp := net_port h hv hi
   simp only [i_stepValues_l0_S, Int.toNat_natCast]
   unfold fstD
   rw [if_pos (lt_nat hi), ckT (by omega), ckT (by omega), ckT (by rw [List.length_map, List.length_take]; omega), wrS i (by omega), map_snoc _ _ _ hi, getD_get (E.getD v default) i hi]
  ·simp only [i_stepValues_l0_S, Int.toNat_natCast]
   rw [if_neg (not_lt_nat _), List.take_length]; rfl
 ·have key := itO_for (fun x => i_stepValues_l0_v1_S prog E ids ins round values out (v : Int) x.1 x.2) (fun i => (((E.getD v default).take i).map (fun e => values.getD e.1.toNat default), (i : Int))) (E.getD v default).length (nearV E values v) ?_ ?_
  ·exact key
  ·intro i hi
   have hp := net_port h hv hi
   simp only [i_stepValues_l0_v1_S, Int.toNat_natCast]
   unfold fstD
   rw [if_pos (lt_nat hi), ckT (by omega), ckT (by omega), ckT (by rw [List.length_map, List.length_take]; omega), wrS i (by omega), map_snoc _ _ _ hi, getD_get (E.getD v default) i hi]
  ·simp only [i_stepValues_l0_v1_S, Int.toNat_natCast]
   rw [if_neg (not_lt_nat _), List.take_length]; rfl
theorem s_near {E : List (List (Int × Int))} {ids ins : List Int} (h : isNet E ids ins = true) (values : List Int) (hq : values.length = E.length) {v : Nat} (hv : v < E.length) :
  ∃ l, s_neNear E ids ins (v : Int) = some l ∧ s_coThrough values l = some (nearV E values v) := by
 have hd := net_deg h hv
 refine ⟨(E.getD v default).map (·.1), ?_, ?_⟩
 ·have key := itO_for (fun x => s_neNear_l0_S E (v : Int) x.1 x.2) (fun i => (((E.getD v default).take i).map (·.1), (i : Int))) (E.getD v default).length ((E.getD v default).map (·.1)) ?_ ?_
  ·unfold s_neNear s_neNear_l0
   rw [ckT (ix_nat hv)]
   simp only [List.take_zero, List.map_nil, Int.natCast_zero] at key
   rw [key]; rfl
  ·intro i hi
   simp only [s_neNear_l0_S, Int.toNat_natCast]
   unfold fstD
   rw [if_pos (lt_nat hi), ckT (by omega), ckT (by rw [List.length_map, List.length_take]; omega), wrS i (by omega), map_snoc _ _ _ hi, getD_get (E.getD v default) i hi]
  ·simp only [s_neNear_l0_S, Int.toNat_natCast]
   rw [if_neg (not_lt_nat _), List.take_length]
 ·have hl : ((E.getD v default).map (·.1)).length = (E.getD v default).length := List.length_map ..
  have key := itO_for (fun x => s_coThrough_l0_S values ((E.getD v default).map (·.1)) x.1 x.2) (fun i => (((E.getD v default).take i).map (fun e => values.getD e.1.toNat default), (i : Int))) (E.getD v default).length (nearV E values v) ?_ ?_
  ·unfold s_coThrough s_coThrough_l0
   simp only [List.take_zero, List.map_nil, Int.natCast_zero] at key
   rw [key]; rfl
  ·intro i hi
   have hp := net_port h hv hi
   rw [getD_get (E.getD v default) i hi] at hp
   have e : ((E.getD v default).map (·.1)).getD i default = (E.getD v default)[i].1 := by
    rw [getD_get _ _ (by rw [hl]; exact hi), List.getElem_map]
   simp only [s_coThrough_l0_S, Int.toNat_natCast, hl, e]
   rw [if_pos (lt_nat hi), ckT (by omega), ckT (by omega), ckT (by rw [List.length_map, List.length_take]; omega), wrS i (by omega), map_snoc _ _ _ hi]
  ·simp only [s_coThrough_l0_S, hl]
   rw [if_neg (not_lt_nat _), List.take_length]; rfl
theorem nearV_in {E : List (List (Int × Int))} {ids ins : List Int} (h : isNet E ids ins = true) (values : List Int) (hq : values.length = E.length) (hr : ∀ x ∈ values, -1000000 ≤ x ∧ x ≤ 1000000) {v : Nat} (hv : v < E.length) :
  (nearV E values v).length < 1099511627776 ∧ ∀ x ∈ nearV E values v, -1000000 ≤ x ∧ x ≤ 1000000 := by
 have hd := net_deg h hv
 refine ⟨by unfold nearV; rw [List.length_map]; omega, fun x hx => ?_⟩
 unfold nearV at hx
 obtain ⟨e, he, rfl⟩ := List.mem_map.1 hx
 obtain ⟨i, hi, rfl⟩ := List.getElem_of_mem he
 have hp := net_port h hv hi
 rw [getD_get (E.getD v default) i hi] at hp
 refine hr _ ?_
 rw [getD_get values _ (by omega)]
 exact List.getElem_mem _
/-- The values after a round agree. -/
theorem step_both {E : List (List (Int × Int))} {ids ins : List Int} (h : isNet E ids ins = true) (prog : List (Int × Int)) (hp : progB prog = true) (round : Int) (values : List Int) (hq : values.length = E.length) (hr : ∀ x ∈ values, -1000000 ≤ x ∧ x ≤ 1000000) :
  ∃ out, i_stepValues prog E ids ins round values = some out ∧ s_vaStep prog E ids ins round values = some out ∧ out.length = E.length ∧ ∀ x ∈ out, -1000000 ≤ x ∧ x ≤ 1000000 := by
 have hin := net_ins h
 have hlen := net_len h
 have ev : ∀ v : Nat, ∃ r : Int, v < E.length →
   (i_surroundings_eval (values.getD v default) (if 0 < (ids.length : Int) then ids.getD v default else 0) (ins.getD v default) round (nearV E values v) prog = some r ∧
       s_vaEval prog (values.getD v default) (if 0 < (ids.length : Int) then ids.getD v default else 0) (ins.getD v default) round (nearV E values v) = some r ∧ -1000000 ≤ r ∧ r ≤ 1000000) := fun v => by
  by_cases hv : v < E.length
  ·obtain ⟨h1, h2⟩ := nearV_in h values hq hr hv
   obtain ⟨r, hr'⟩ := eval_both (values.getD v default) (if 0 < (ids.length : Int) then ids.getD v default else 0) (ins.getD v default) round (nearV E values v) prog hp h1 h2
   exact ⟨r, fun _ => hr'⟩
  ·exact ⟨0, fun h => (hv h).elim⟩
 let R : Nat → Int := fun v => Classical.choose (ev v)
 have hR : ∀ v : Nat, v < E.length → (i_surroundings_eval (values.getD v default) (if 0 < (ids.length : Int) then ids.getD v default else 0) (ins.getD v default) round (nearV E values v) prog = some (R v) ∧
       s_vaEval prog (values.getD v default) (if 0 < (ids.length : Int) then ids.getD v default else 0) (ins.getD v default) round (nearV E values v) = some (R v) ∧ -1000000 ≤ R v ∧ R v ≤ 1000000) := fun v hv => Classical.choose_spec (ev v) hv
 refine ⟨(List.range E.length).map R, ?_, ?_, by simp, fun x hx => ?_⟩
 ·have key := itO_for (fun x => i_stepValues_l1_S prog E ids ins round values x.1 x.2) (fun i => ((List.range i).map R, (i : Int))) E.length ((List.range E.length).map R) ?_ ?_
  ·unfold i_stepValues i_stepValues_l1
   simp only [List.range_zero, List.map_nil, Int.natCast_zero] at key
   rw [key]; rfl
  ·intro v hv
   obtain ⟨r1, _, _⟩ := hR v hv
   obtain ⟨n1, n2⟩ := i_near h prog round values ((List.range v).map R) hq hv
   have hout : ((List.range v).map R).length + 1 < 1099511627776 := by simp; omega
   have hsn : (List.range (v + 1)).map R = (List.range v).map R ++ [R v] := by rw [List.range_succ, List.map_append]; rfl
   simp only [i_stepValues_l1_S]
   rw [if_pos (lt_nat hv), ckT (ix_nat hv), ckT (by omega), ckT (by omega), n1, n2, wrS v (by omega), Int.toNat_natCast, hsn]
   by_cases h0 : 0 < (ids.length : Int)
   ·have := net_ids h h0
    rw [if_pos h0] at r1
    rw [if_pos h0, ckT (by omega), Option.bind_some, r1, Option.bind_some, ckT hout]
   ·rw [if_neg h0] at r1
    rw [if_neg h0, Option.bind_some, r1, Option.bind_some, ckT hout]
  ·simp only [i_stepValues_l1_S]
   rw [if_neg (not_lt_nat _)]
 ·have key := itO_for (fun x => s_vaStep_l0_S prog E ids ins round values x.1 x.2) (fun i => ((List.range i).map R, (i : Int))) E.length ((List.range E.length).map R) ?_ ?_
  ·unfold s_vaStep s_vaStep_l0
   simp only [List.range_zero, List.map_nil, Int.natCast_zero] at key
   rw [key]; rfl
  ·intro v hv
   obtain ⟨_, r1, _⟩ := hR v hv
   obtain ⟨l, n1, n2⟩ := s_near h values hq hv
   have hout : ((List.range v).map R).length + 1 < 1099511627776 := by simp; omega
   have hsn : (List.range (v + 1)).map R = (List.range v).map R ++ [R v] := by rw [List.range_succ, List.map_append]; rfl
   simp only [s_vaStep_l0_S]
   rw [if_pos (lt_nat hv), ckT (by omega), ckT (by omega), n1, Option.bind_some, n2, Option.bind_some, wrS v (by omega), Int.toNat_natCast, hsn]
   by_cases h0 : 0 < (ids.length : Int)
   ·have := net_ids h h0
    rw [if_pos h0] at r1
    rw [if_pos h0, ckT (by omega), r1, Option.bind_some, ckT hout]
   ·rw [if_neg h0] at r1
    rw [if_neg h0, r1, Option.bind_some, ckT hout]
  ·simp only [s_vaStep_l0_S]
   rw [if_neg (not_lt_nat _)]
 ·obtain ⟨v, hv, rfl⟩ := List.mem_map.1 hx
  exact (hR v (List.mem_range.1 hv)).2.2
/-- There are a program, a network and a value for each node. -/
def vokB (prog : List (Int × Int)) (E : List (List (Int × Int))) (ids ins values : List Int) : Bool :=
 progB prog && (isNet E ids ins && (decide (values.length = E.length) && allIn values (-1000000) 1000000))
theorem vok_both (prog : List (Int × Int)) (E : List (List (Int × Int))) (ids ins values : List Int) (hE : ShortE E) (h2 : ids.length < 1099511627776) (h3 : ins.length < 1099511627776) (h4 : values.length < 1099511627776) :
  i_valuesOk prog E ids ins values = some (vokB prog E ids ins values) ∧ s_vaAsked prog E ids ins values = some (vokB prog E ids ins values) := by
 unfold i_valuesOk s_vaAsked vokB s_vaValues
 rw [i_prog_eq, s_prog_eq, Option.bind_some, Option.bind_some]
 cases progB prog with
 | false => exact ⟨rfl, rfl⟩
 | true =>
  rw [if_pos rfl, if_pos rfl, ckT hE, ckT h2, ckT h3, ckT hE, ckT h2, ckT h3]
  cases isNet E ids ins with
  | false => exact ⟨rfl, rfl⟩
  | true =>
   rw [if_pos rfl, if_pos rfl]
   by_cases hq : values.length = E.length
   ·rw [if_pos (by omega), if_pos (by omega), ckT h4, decide_eq_true hq]; exact ⟨rfl, rfl⟩
   ·rw [if_neg (by omega), if_neg (by omega), decide_eq_false hq]; exact ⟨rfl, rfl⟩
theorem vok_parts {prog : List (Int × Int)} {E : List (List (Int × Int))} {ids ins values : List Int} (h : vokB prog E ids ins values = true) :
  progB prog = true ∧ isNet E ids ins = true ∧ values.length = E.length ∧ ∀ x ∈ values, -1000000 ≤ x ∧ x ≤ 1000000 := by
 unfold vokB at h
 simp only [Bool.and_eq_true, decide_eq_true_eq] at h
 exact ⟨h.1, h.2.1, h.2.2.1, allIn_iff.1 h.2.2.2⟩

end Go.Proofs.YtjkgcfdcfjkkbaaGreat
