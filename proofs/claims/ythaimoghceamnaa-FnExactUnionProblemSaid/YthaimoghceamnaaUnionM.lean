/- Unions of problems are problems when the labels are few; the law on UnionProblem. Conditions: none. -/
import Derived.Test.YthaimoghceamnaaL5
import Derived.Test.YthaimoghceamnaaUnionL
namespace Go.Proofs.Ythaimoghceamnaa
open Go Dv
set_option linter.unusedSimpArgs false
set_option linter.unusedVariables false
set_option maxRecDepth 100000


theorem getD_appL (l m : List (List Int)) (i : Nat) (h : i < l.length) : (l ++ m).getD i default = l.getD i default := by
  rw [List.getD_eq_getElem?_getD, List.getElem?_append_left h, ← List.getD_eq_getElem?_getD]
theorem getD_appR (l m : List (List Int)) (i : Nat) (h : l.length ≤ i) : (l ++ m).getD i default = m.getD (i - l.length) default := by
  rw [List.getD_eq_getElem?_getD, List.getElem?_append_right h, ← List.getD_eq_getElem?_getD]
theorem getD_shift (a : Int) (m : List (List Int)) (i : Nat) : (shiftL a m).getD i default = (m.getD i default).map fun x => x + a := by
  rw [List.getD_eq_getElem?_getD, shiftL, List.getElem?_map, List.getD_eq_getElem?_getD]
  cases m[i]? <;> rfl
theorem getD_mapA (a : Int) (xs : List Int) (i : Nat) (h : i < xs.length) : (xs.map fun x => x + a).getD i default = xs.getD i default + a := by
  rw [List.getD_eq_getElem?_getD, List.getElem?_map, List.getD_eq_getElem?_getD, List.getElem?_eq_getElem h]; rfl
theorem sorted_mapA (a : Int) (xs : List Int) (h : sortedB xs = true) : sortedB (xs.map fun x => x + a) = true := by
  refine range_all.2 fun j hj => ?_
  rw [List.length_map] at hj
  have := range_all.1 h j hj
  rw [decide_eq_true_eq] at this ⊢
  rw [getD_mapA _ _ _ (by omega), getD_mapA _ _ _ (by omega)]
  omega
theorem allIn_mapA (a lo hi : Int) (xs : List Int) (h : allIn xs lo hi = true) : allIn (xs.map fun x => x + a) (lo + a) (hi + a) = true := by
  refine List.all_eq_true.2 fun y hy => ?_
  obtain ⟨x, hx, rfl⟩ := List.mem_map.1 hy
  have := inR_iff.1 (List.all_eq_true.1 h x hx)
  exact inR_iff.2 ⟨by omega, by omega⟩
theorem allIn_wide {xs : List Int} {lo hi lo' hi' : Int} (h : allIn xs lo hi = true) (h1 : lo' ≤ lo) (h2 : hi ≤ hi') : allIn xs lo' hi' = true := by
  refine List.all_eq_true.2 fun x hx => ?_
  have := inR_iff.1 (List.all_eq_true.1 h x hx)
  exact inR_iff.2 ⟨by omega, by omega⟩
theorem cmpL_mapA (a : Int) : ∀ (xs ys : List Int), cmpL (xs.map fun x => x + a) (ys.map fun x => x + a) = cmpL xs ys := by
  intro xs
  induction xs with
  | nil => intro ys; cases ys <;> rfl
  | cons x xs ih =>
    intro ys
    cases ys with
    | nil => rfl
    | cons y ys =>
      have e : (x + a = y + a) = (x = y) := propext ⟨fun h => by omega, fun h => by omega⟩
      simp only [List.map_cons, cmpL, ih, Int.add_lt_add_iff_right, e]
theorem cmpL_low {xs ys : List Int} (h1 : 0 < xs.length) (h2 : 0 < ys.length) (h : xs.getD 0 default < ys.getD 0 default) : cmpL xs ys < 0 := by
  rcases xs with _ | ⟨x, xs⟩
  · simp at h1
  · rcases ys with _ | ⟨y, ys⟩
    · simp at h2
    · have h' : x < y := h
      have h'' : ¬ x = y := by omega
      simp only [cmpL, if_pos h', if_neg h'']; decide
theorem confAt_iff {l : List (List Int)} {size labels : Int} {i : Nat} : confAt l size labels i = true ↔
    (((l.getD i default).length : Int) = size ∧ sortedB (l.getD i default) = true ∧ allIn (l.getD i default) 0 (labels - 1) = true ∧ (i = 0 ∨ cmpL (l.getD (i - 1) default) (l.getD i default) < 0)) := by
  unfold confAt
  simp only [Bool.and_eq_true, decide_eq_true_eq, Bool.or_eq_true, and_assoc]
theorem confs_union {l m : List (List Int)} {size a b : Int} (hs : 1 ≤ size) (ha : 1 ≤ a) (hb : 1 ≤ b) (hl : confs l size a = true) (hm : confs m size b = true) : confs (l ++ shiftL a m) size (a + b) = true := by
  refine range_all.2 fun i hi => ?_
  rw [List.length_append, shiftL_len] at hi
  rcases Nat.lt_or_ge i l.length with hlt | hge
  · obtain ⟨c1, c2, c3, c4⟩ := confAt_iff.1 (range_all.1 hl i hlt)
    rw [confAt_iff, getD_appL l _ i hlt, getD_appL l _ (i - 1) (by omega)]
    exact ⟨c1, c2, allIn_wide c3 (by omega) (by omega), c4⟩
  · have hj : i - l.length < m.length := by omega
    obtain ⟨c1, c2, c3, c4⟩ := confAt_iff.1 (range_all.1 hm (i - l.length) hj)
    rw [confAt_iff, getD_appR l _ i hge, getD_shift, List.length_map]
    refine ⟨c1, sorted_mapA _ _ c2, allIn_wide (allIn_mapA a _ _ _ c3) (by omega) (by omega), ?_⟩
    by_cases h0 : i = 0
    · exact Or.inl h0
    · right
      rcases Nat.lt_or_ge (i - 1) l.length with g | g
      · obtain ⟨d1, d2, d3, d4⟩ := confAt_iff.1 (range_all.1 hl (i - 1) g)
        rw [getD_appL l _ (i - 1) g]
        have p1 : 0 < (l.getD (i - 1) default).length := by omega
        have p2 : 0 < (m.getD (i - l.length) default).length := by omega
        refine cmpL_low p1 (by rw [List.length_map]; exact p2) ?_
        rw [getD_mapA _ _ _ p2]
        have u1 := inR_iff.1 (List.all_eq_true.1 d3 _ (List.getElem_mem p1))
        have u2 := inR_iff.1 (List.all_eq_true.1 c3 _ (List.getElem_mem p2))
        rw [getD_get _ _ p1, getD_get _ _ p2]
        omega
      · rw [getD_appR l _ (i - 1) g, getD_shift, cmpL_mapA, show i - 1 - l.length = i - l.length - 1 by omega]
        rcases c4 with c | c
        · omega
        · exact c
/-- What a problem says. -/
theorem isProb_parts {a d : Int} {ns es : List (List Int)} (h : isProb a d ns es = true) : (1 ≤ a ∧ a ≤ 8) ∧ (1 ≤ d ∧ d ≤ 4) ∧ confs ns d a = true ∧ confs es 2 a = true := by
  simp only [isProb, Bool.and_eq_true] at h
  exact ⟨inR_iff.1 h.1.1.1, inR_iff.1 h.1.1.2, h.1.2, h.2⟩
theorem isProb_union {a b d : Int} {ns es ns' es' : List (List Int)} (h : isProb a d ns es = true) (h' : isProb b d ns' es' = true) : isProb (a + b) d (ns ++ shiftL a ns') (es ++ shiftL a es') = decide (a + b ≤ 8) := by
  obtain ⟨ha, hd, c1, c2⟩ := isProb_parts h
  obtain ⟨hb, _, c3, c4⟩ := isProb_parts h'
  have q2 : inR d 1 4 = true := inR_iff.2 hd
  have q3 : inR (a + b) 1 8 = decide (a + b ≤ 8) := by unfold inR; rw [decide_eq_decide]; omega
  simp only [isProb, confs_union hd.1 ha.1 hb.1 c1 c3, confs_union (by omega) ha.1 hb.1 c2 c4, Bool.and_true, q2, q3]
/-- Both unions return the same. -/
theorem union_both (a d : Int) (ns es : List (List Int)) (b d' : Int) (ns' es' : List (List Int)) (hn : Short ns) (he : Short es) (hn' : Short ns') (he' : Short es')
    (s1 : ns.length + tot ns + es.length + tot es ≤ 1048576) (s2 : ns'.length + tot ns' + es'.length + tot es' ≤ 1048576) :
    ∃ L K N E ok, Short N ∧ Short E ∧ tot N + tot E ≤ 2097152 ∧ s_UnionProblem a d ns es b d' ns' es' = some (L, K, N, E, ok) ∧ i_UnionProblem a d ns es b d' ns' es' = some (L, K, N, E, ok) := by
  have t1 := tot_nonneg ns
  have t2 := tot_nonneg es
  have t3 := tot_nonneg ns'
  have t4 := tot_nonneg es'
  unfold s_UnionProblem i_UnionProblem
  rw [ckT hn, ckT he, ckT hn', ckT he', ckT hn, ckT he, ckT hn', ckT he']
  by_cases q : (isProb a d ns es && (isProb b d' ns' es' && decide (d = d'))) = true
  · rw [if_pos q, if_pos q]
    simp only [Bool.and_eq_true, decide_eq_true_eq] at q
    obtain ⟨p1, p2, rfl⟩ := q
    obtain ⟨ha, y1, y2⟩ := isProb_tiny p1
    obtain ⟨hb, y3, y4⟩ := isProb_tiny p2
    have n1 : Short (ns ++ shiftL a ns') := tot_short (by rw [tot_append, tot_shift, List.length_append, shiftL_len]; omega)
    have n2 : Short (es ++ shiftL a es') := tot_short (by rw [tot_append, tot_shift, List.length_append, shiftL_len]; omega)
    have k1 : ns.length + (shiftL a ns').length < 1099511627776 := by rw [shiftL_len]; omega
    have k2 : es.length + (shiftL a es').length < 1099511627776 := by rw [shiftL_len]; omega
    have k3 : 0 ≤ a ∧ a ≤ 8 := by omega
    rw [wr64 _ (by omega)]
    simp only [ckT y1, ckT y2, ckT y3, ckT y4, ckT k1, ckT k2, ckT k3, i_madeProblem, ckT n1, ckT n2, isProb_union p1 p2]
    by_cases h8 : a + b ≤ 8
    · refine ⟨a + b, d, ns ++ shiftL a ns', es ++ shiftL a es', true, n1, n2, by rw [tot_append, tot_append, tot_shift, tot_shift]; omega, ?_, ?_⟩
      · rw [if_neg (by omega)]
      · rw [if_pos (decide_eq_true h8)]; rfl
    · refine ⟨0, 0, [], [], false, Short.nil, Short.nil, by rw [tot_nil]; decide, ?_, ?_⟩
      · rw [if_pos (by omega)]
      · rw [if_neg (by simpa using h8)]; rfl
  · rw [if_neg q, if_neg q]
    exact ⟨0, 0, [], [], false, Short.nil, Short.nil, by rw [tot_nil]; decide, rfl, rfl⟩
theorem union_law (a d : Int) (ns es : List (List Int)) (b d' : Int) (ns' es' : List (List Int)) (hn : Wide ns) (he : Wide es) (hn' : Wide ns') (he' : Wide es') : l_FnExactUnionProblem a d ns es b d' ns' es' = some true := by
  unfold l_FnExactUnionProblem
  rw [ckT hn, ckT he, ckT (by omega)]
  by_cases q1 : szP 1048576 ns es < 0
  · rw [if_pos q1]
  · obtain ⟨f1, sn, se, f2⟩ := szP_fit (by omega) q1
    rw [if_neg q1, ckT hn', ckT he', ckT (by omega)]
    by_cases q2 : szP (szP 1048576 ns es) ns' es' < 0
    · rw [if_pos q2]
    · obtain ⟨f3, sn', se', f4⟩ := szP_fit f2 q2
      have t1 := tot_nonneg ns
      have t2 := tot_nonneg es
      have t3 := tot_nonneg ns'
      have t4 := tot_nonneg es'
      obtain ⟨L, K, N, E, ok, hN, hE, hT, hS, hI⟩ := union_both a d ns es b d' ns' es' sn se sn' se' f1 f3
      have t5 := tot_nonneg N
      have t6 := tot_nonneg E
      have hh := l_heldProblem_eq L K N E 1 hN hE (by omega)
      have g1 : (0 : Int) ≤ 1 ∧ 1 + tot ns + tot es < 1099511627776 := by omega
      have g2 : 0 ≤ 1 + tot ns + tot es ∧ 1 + tot ns + tot es + tot ns' + tot es' < 1099511627776 := by omega
      have g3 : ¬ 1 + tot ns + tot es + tot ns' + tot es' < 0 := by omega
      have g4 : (0 : Int) ≤ 1 ∧ 1 + tot N + tot E < 1099511627776 := by omega
      have g5 : ¬ 1 + tot N + tot E < 0 := by omega
      rw [if_neg q2, ckT sn, ckT se, ckT sn', ckT se']
      simp only [hS, hI, Option.bind_some, ckT hN, ckT hE, sameP_refl, if_true, ckT g1, ckT g2, if_neg g3, ckT g4, hh, if_neg g5]
      cases ok <;> rfl
theorem union_all (ds : List D) (h : Args tys [36, 36] ds) : Y.call 12 ds [] = some (.bool true, []) := by
  rcases ds with _ | ⟨x, _ | ⟨y, _ | ⟨_, _⟩⟩⟩
  · cases h
  · exact h.2.elim
  · obtain ⟨a, d, ns, es, rfl, _, _, hn, he⟩ := argProblem ty36 ty3 ty34 ty25 ty3 h.1
    obtain ⟨b, d', ns', es', rfl, _, _, hn', he'⟩ := argProblem ty36 ty3 ty34 ty25 ty3 h.2.1
    exact l_FnExactUnionProblem_call a d ns es b d' ns' es' (union_law a d ns es b d' ns' es' (wide_of hn) (wide_of he) (wide_of hn') (wide_of he'))
  · exact h.2.2.elim

end Go.Proofs.Ythaimoghceamnaa
