/- Distances: program and reference agree. Conditions: the network is one. -/
import Derived.Test.YtipfckompmhljaaL6
import Derived.Test.YtipfckompmhljaaDstA
import Derived.Test.YtipfckompmhljaaBfs
import Derived.Test.YtipfckompmhljaaPrt
import Derived.Test.YtipfckompmhljaaRep
namespace Go.Proofs.Ytipfckompmhljaa
open Go Dv
set_option linter.unusedSimpArgs false
set_option linter.unusedVariables false
set_option maxRecDepth 100000


/-- The distances from a node. -/
def distE (E : List (List (Int × Int))) (v : Nat) : List Int := bfs (adjE E) E.length (startB E.length v) [(v : Int)]
theorem visit_foldl (w : Nat) : ∀ (xs : List Int) (s : List Int × List Int), xs.foldl (fun b x => visitL w [x] b) s = visitL w xs s
 | [], _ => rfl
 | x :: xs, s => by
  rw [List.foldl_cons, visit_foldl w xs]
  exact (visitL_append w [x] xs s).symm
theorem i_dist_inner (E : List (List (Int × Int))) (ids ins : List Int) (n v w : Nat) (d : Int) (hn : n ≤ 40) (hd : (E.getD w default).length ≤ 6) (hA : ∀ y ∈ adjE E w, 0 ≤ y ∧ y.toNat < n) (queue o q : List Int) (hw : queue.getD 0 default = (w : Int)) (hM : MidB (adjE E) n v w d [] o q) :
  i_distancesFrom_l0 E ids ins queue (o, q, 0) = some (visitL w (adjE E w) (o, q)) := by
 have key := itO_fold (fun x => i_distancesFrom_l0_S E ids ins queue x.1 x.2.1 x.2.2) (fun i (b : List Int × List Int) => (b.1, b.2, (i : Int))) (fun _ b => ∃ don, MidB (adjE E) n v w d don b.1 b.2) (adjE E w) (fun b x => visitL w [x] b) (fun b => b) ?_ ?_ (o, q) ⟨[], hM⟩
 ·rw [visit_foldl] at key
  exact key.1
 ·rintro i ⟨o', q'⟩ hi ⟨don, h⟩
  have hx : (adjE E w)[i] ∈ adjE E w := List.getElem_mem hi
  have h0 := hA _ hx
  refine ⟨?_, _, h.step hx h0⟩
  have e := adjE_get E w i hi
  rw [adjE_len] at hi
  have hb := h.bd
  have hl := h.len
  have hwn := h.wn
  have how := h.ow
  have hd0 := h.d0
  dsimp only at hb hl how
  simp only [i_distancesFrom_l0_S, hw, Int.toNat_natCast, ← e]
  rw [if_pos (lt_nat hi), ckT ⟨by omega, hi⟩, ckT (by omega), wrS i (by omega)]
  simp only [visitL]
  by_cases hneg : at_ o' (adjE E w)[i].toNat < 0
  ·rw [if_pos hneg, if_pos (by exact hneg), ckT (by omega), ckT (by omega)]
   have : IntKind.i64.wrap (o'.getD w default + 1) = at_ o' w + 1 := by
    show IntKind.i64.wrap (at_ o' w + 1) = _
    rw [wr64 _ (by omega)]
   rw [this]
  ·rw [if_neg hneg, if_neg (by exact hneg)]
 ·rintro ⟨o', q'⟩ _
  simp only [i_distancesFrom_l0_S, hw, Int.toNat_natCast]
  rw [adjE_len, if_neg (not_lt_nat _)]
theorem dist_spec {E : List (List (Int × Int))} {ids ins : List Int} (h : isNet E ids ins = true) (v : Nat) (hv : v < E.length) : FinB (adjE E) E.length v (distE E v) := by
 obtain ⟨i1, i2, i3⟩ := startB_inv (adjE E) E.length v hv
 have := bfs_loop (adjE E) E.length v hv (adjE_ok h) (fun s : List Int × List Int => match s.2 with | [] => some (.inr s.1) | w :: q => some (.inl (visitL w.toNat (adjE E w.toNat) (s.1, q)))) (fun _ o q => (o, q)) (fun o => o) (fun _ _ _ _ _ _ => rfl) (fun _ _ _ _ => rfl)
  E.length [] (startB E.length v) [(v : Int)] i1 (by simp only [List.length_singleton]; omega) i3 (by simp only [List.length_singleton, List.length_nil]; omega)
 exact this.2
theorem i_dist_eq {E : List (List (Int × Int))} {ids ins : List Int} (h : isNet E ids ins = true) (v : Nat) (hv : v < E.length) : i_distancesFrom E ids ins (v : Int) = some (distE E v) := by
 obtain ⟨hn, _, hd, _⟩ := port_net h
 obtain ⟨i1, i2, i3⟩ := startB_inv (adjE E) E.length v hv
 have key := bfs_loop (adjE E) E.length v hv (adjE_ok h) (fun s => i_distancesFrom_l1_S E ids ins s.1 s.2) (fun _ o q => (o, q)) (fun o => o) ?_ ?_
  E.length [] (startB E.length v) [(v : Int)] i1 (by simp only [List.length_singleton]; omega) i3 (by simp only [List.length_singleton, List.length_nil]; omega)
 ·unfold i_distancesFrom
  rw [repI_one (-1) (E.length : Int) (by omega), Option.bind_some, Int.toNat_natCast, ckT (by rw [List.length_replicate]; omega), Int.toNat_natCast]
  have : i_distancesFrom_l1 E ids ins ((List.replicate E.length (-1)).set v 0, [(v : Int)]) = some (distE E v) := key.1
  rw [this]; rfl
 ·intro don o w q hI _
  have hw := hI.qn w List.mem_cons_self
  have hwn : ((w.toNat : Nat) : Int) = w := by omega
  have := i_dist_inner E ids ins E.length v w.toNat _ hn (hd _ hw.2.1) (adjE_ok h _ hw.2.1) (w :: q) o q (by simpa using hwn.symm) hI.pop
  simp only [i_distancesFrom_l1_S]
  rw [if_pos (by simp only [List.length_cons]; omega), ckT (by simp), ckT (by simp), ckT (by simpa using ⟨hw.1, hw.2.1⟩), List.drop_one, List.tail_cons, this]
  rfl
 ·intro don o _ _
  simp only [i_distancesFrom_l1_S]
  rw [if_neg (by simp)]
theorem s_near_eq (E : List (List (Int × Int))) (ids ins : List Int) (v : Nat) (hv : v < E.length) (hd : (E.getD v default).length ≤ 6) : s_neNear E ids ins (v : Int) = some (adjE E v) := by
 unfold s_neNear s_neNear_l0
 rw [ckT (by omega)]
 have key := itO_for (fun x => s_neNear_l0_S E (v : Int) x.1 x.2) (fun i => (((E.getD v default).take i).map (·.1), (i : Int))) (E.getD v default).length ((E.getD v default).map (·.1)) ?_ ?_
 ·have e : ((0 : Nat) : Int) = 0 := rfl
  simp only [e, List.take_zero, List.map_nil] at key
  rw [key]; rfl
 ·intro i hi
  simp only [s_neNear_l0_S, Int.toNat_natCast]
  rw [if_pos (lt_nat hi), ckT (by omega), ckT (by rw [List.length_map, List.length_take]; omega), wrS i (by omega), List.take_add_one, List.getElem?_eq_getElem hi, List.map_append]
  unfold fstD
  rw [getD_get (E.getD v default) _ hi]; rfl
 ·simp only [s_neNear_l0_S, Int.toNat_natCast]
  rw [if_neg (not_lt_nat _), List.take_length]
theorem s_dist_inner (E : List (List (Int × Int))) (ids ins : List Int) (n v w : Nat) (d : Int) (hn : n ≤ 40) (hd : (E.getD w default).length ≤ 6) (hA : ∀ y ∈ adjE E w, 0 ≤ y ∧ y.toNat < n) (don : List Int) (hdon : don.length ≤ 40) (o q : List Int) (hM : MidB (adjE E) n v w d [] o q) :
  s_meFrom_l1 E ids ins (don.length : Int) (adjE E w) (o, don ++ (w : Int) :: q, 0) = some ((visitL w (adjE E w) (o, q)).1, (don ++ [(w : Int)]) ++ (visitL w (adjE E w) (o, q)).2) := by
 have key := itO_fold (fun x => s_meFrom_l1_S E ids ins (don.length : Int) (adjE E w) x.1 x.2.1 x.2.2) (fun i (b : List Int × List Int) => (b.1, (don ++ [(w : Int)]) ++ b.2, (i : Int))) (fun _ b => ∃ don, MidB (adjE E) n v w d don b.1 b.2) (adjE E w) (fun b x => visitL w [x] b) (fun b => (b.1, (don ++ [(w : Int)]) ++ b.2)) ?_ ?_ (o, q) ⟨[], hM⟩
 ·rw [visit_foldl] at key
  have e : don ++ (w : Int) :: q = (don ++ [(w : Int)]) ++ q := by simp
  rw [e]
  exact key.1
 ·rintro i ⟨o', q'⟩ hi ⟨don', h⟩
  have hx : (adjE E w)[i] ∈ adjE E w := List.getElem_mem hi
  have h0 := hA _ hx
  refine ⟨?_, _, h.step hx h0⟩
  have hb := h.bd
  have hl := h.len
  have hwn := h.wn
  have how := h.ow
  have hd0 := h.d0
  dsimp only at hb hl how
  have hi6 : i < 6 := by rw [adjE_len] at hi; omega
  have ew : ((don ++ [(w : Int)]) ++ q').getD don.length default = (w : Int) := by
   rw [List.getD_eq_getElem?_getD, List.append_assoc, List.getElem?_append_right (Nat.le_refl _), Nat.sub_self]; rfl
  have el : ((don ++ [(w : Int)]) ++ q').length = don.length + 1 + q'.length := by simp; omega
  simp only [s_meFrom_l1_S, Int.toNat_natCast, getD_get _ _ hi, ew, el]
  rw [if_pos (lt_nat hi), ckT ⟨by omega, hi⟩, ckT (by omega), wrS i (by omega)]
  simp only [visitL]
  by_cases hneg : at_ o' (adjE E w)[i].toNat < 0
  ·rw [if_pos hneg, if_pos (by exact hneg), ckT (by omega), ckT (by omega), ckT (by omega)]
   have : IntKind.i64.wrap (o'.getD w default + 1) = at_ o' w + 1 := by
    show IntKind.i64.wrap (at_ o' w + 1) = _
    rw [wr64 _ (by omega)]
   rw [this, List.append_assoc]
  ·rw [if_neg hneg, if_neg (by exact hneg)]
 ·rintro ⟨o', q'⟩ _
  simp only [s_meFrom_l1_S]
  rw [if_neg (not_lt_nat _)]
theorem s_dist_eq {E : List (List (Int × Int))} {ids ins : List Int} (h : isNet E ids ins = true) (v : Nat) (hv : v < E.length) : s_meFrom E ids ins (v : Int) = some (distE E v) := by
 obtain ⟨hn, _, hd, _⟩ := port_net h
 obtain ⟨i1, i2, i3⟩ := startB_inv (adjE E) E.length v hv
 have fill := itO_fill (fun x => s_meFrom_l0_S E ids ins (v : Int) x.1 x.2) (List.replicate E.length (0 : Int)) (fun _ => (-1 : Int)) (0 : Int) ?_ ?_
 ·have key := bfs_loop (adjE E) E.length v hv (adjE_ok h) (fun s => s_meFrom_l2_S E ids ins s.1 s.2.1 s.2.2) (fun don o q => (o, don ++ q, (don.length : Int))) (fun o => o) ?_ ?_
   E.length [] (startB E.length v) [(v : Int)] i1 (by simp only [List.length_singleton]; omega) i3 (by simp only [List.length_singleton, List.length_nil]; omega)
  ·unfold s_meFrom
   rw [List.length_replicate, List.map_replicate] at fill
   rw [ckT (by omega)]
   have f2 : s_meFrom_l0 E ids ins (v : Int) (List.replicate E.length 0, 0) = some (List.replicate E.length (-1)) := fill
   rw [f2, Option.bind_some, Int.toNat_natCast, ckT (by rw [List.length_replicate]; omega)]
   have : s_meFrom_l2 E ids ins ((List.replicate E.length (-1)).set v 0, [(v : Int)], 0) = some (distE E v) := key.1
   rw [this]; rfl
  ·intro don o w q hI hb
   simp only [List.length_cons] at hb
   have hw := hI.qn w List.mem_cons_self
   have hwn : ((w.toNat : Nat) : Int) = w := by omega
   have := s_dist_inner E ids ins E.length v w.toNat _ hn (hd _ hw.2.1) (adjE_ok h _ hw.2.1) don (by omega) o q hI.pop
   rw [hwn] at this
   have e1 : (don ++ w :: q).getD don.length default = w := by
    rw [List.getD_eq_getElem?_getD, List.getElem?_append_right (Nat.le_refl _), Nat.sub_self]; rfl
   have e2 := s_near_eq E ids ins w.toNat hw.2.1 (hd _ hw.2.1)
   rw [hwn] at e2
   simp only [s_meFrom_l2_S, Int.toNat_natCast, e1]
   rw [if_pos (by simp only [List.length_append, List.length_cons]; omega), ckT (by simp only [List.length_append, List.length_cons]; omega), e2, Option.bind_some, this, Option.bind_some, wrS _ (by omega)]
   simp
  ·intro don o _ _
   simp only [s_meFrom_l2_S]
   rw [if_neg (by simp)]
 ·intro i hi out ho
  simp only [List.length_replicate] at hi ho
  simp only [s_meFrom_l0_S, Int.toNat_natCast, List.length_replicate]
  rw [if_pos (lt_nat hi), ckT (by omega), wrS i (by omega)]
 ·intro out ho
  simp only [s_meFrom_l0_S, List.length_replicate]
  rw [if_neg (not_lt_nat _)]
/-- Are all nodes reached from node 0? -/
def conE (E : List (List (Int × Int))) : Bool := !(distE E 0).contains (-1)
theorem i_con_eq {E : List (List (Int × Int))} {ids ins : List Int} (h : isNet E ids ins = true) : i_isConnected E ids ins = some (conE E) := by
 obtain ⟨hn, hn1, _, _⟩ := port_net h
 have h0 : i_distancesFrom E ids ins 0 = some (distE E 0) := i_dist_eq h 0 (by omega)
 have hF := dist_spec h 0 (by omega)
 unfold i_isConnected
 rw [h0, Option.bind_some, ckT (by rw [hF.len]; omega)]; rfl
theorem s_con_eq {E : List (List (Int × Int))} {ids ins : List Int} (h : isNet E ids ins = true) : s_meConnected E ids ins = some (conE E) := by
 obtain ⟨hn, hn1, _, _⟩ := port_net h
 have h0 : s_meFrom E ids ins 0 = some (distE E 0) := s_dist_eq h 0 (by omega)
 have hF := dist_spec h 0 (by omega)
 unfold s_meConnected
 rw [h0, Option.bind_some, ckT (by rw [hF.len]; omega)]
 refine congrArg some ?_
 unfold conE allIn
 rw [Bool.eq_iff_iff, List.all_eq_true, Bool.not_eq_true', ← Bool.not_eq_true, List.contains_iff_mem]
 constructor
 ·intro hc hm
  have := inR_iff.1 (hc _ hm)
  omega
 ·intro hc x hx
  obtain ⟨i, hi, rfl⟩ := List.getElem_of_mem hx
  have hi' : i < E.length := by rw [← hF.len]; exact hi
  have a := hF.lo i hi'
  have b := hF.hi i hi'
  unfold at_ at a b
  rw [getD_get _ _ hi] at a b
  have : (distE E 0)[i] ≠ -1 := fun e => hc (e ▸ List.getElem_mem hi)
  exact inR_iff.2 (by omega)

end Go.Proofs.Ytipfckompmhljaa
