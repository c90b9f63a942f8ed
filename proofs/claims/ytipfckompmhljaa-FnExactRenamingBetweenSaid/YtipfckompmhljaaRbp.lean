/- Searches for renamings, as plain functions. Conditions: those in each lemma. -/
import Derived.Test.YtipfckompmhljaaL6
import Derived.Test.YtipfckompmhljaaDt
namespace Go.Proofs.Ytipfckompmhljaa
open Go Dv
set_option linter.unusedSimpArgs false
set_option linter.unusedVariables false
set_option maxRecDepth 100000


/-! ### Renamings -/
theorem perm_of_sub : ∀ (l m : List (List Int)), l.Nodup → (∀ x ∈ l, x ∈ m) → l.length = m.length → l.Perm m
 | [], m, _, _, hl => by rw [List.eq_nil_of_length_eq_zero hl.symm]
 | x :: l, m, hn, hs, hl => by
  have hx := hs x List.mem_cons_self
  rw [List.nodup_cons] at hn
  have h1 : m.Perm (x :: m.erase x) := List.perm_cons_erase hx
  have hl2 := h1.length_eq
  simp only [List.length_cons] at hl hl2
  refine ((List.perm_cons x).2 (perm_of_sub l (m.erase x) hn.2 (fun y hy => ?_) (by omega))).trans h1.symm
  have := h1.mem_iff.1 (hs y (List.mem_cons_of_mem _ hy))
  rcases List.mem_cons.1 this with rfl | h
  ·exact absurd hy hn.1
  ·exact h
/-- What a label becomes. -/
def imgL (r : List Int) (a : Int) : Int := r.getD a.toNat default
def preL (r : List Int) (b : Int) : Int := (r.idxOf b : Int)
theorem preL_img {r : List Int} (h : r.Nodup) {a : Int} (h0 : 0 ≤ a) (h1 : a.toNat < r.length) : preL r (imgL r a) = a := by
 unfold preL imgL
 rw [getD_get _ _ h1, h.idxOf_getElem a.toNat h1]
 omega
theorem preL_map {r : List Int} (h : r.Nodup) {c : List Int} (hc : ∀ a ∈ c, 0 ≤ a ∧ a.toNat < r.length) : (c.map (imgL r)).map (preL r) = c := by
 rw [List.map_map]
 have : ∀ a ∈ c, (preL r ∘ imgL r) a = a := fun a ha => preL_img h (hc a ha).1 (hc a ha).2
 rw [List.map_congr_left this, List.map_id']
theorem count_img {r : List Int} (h : r.Nodup) {c : List Int} (hc : ∀ a ∈ c, 0 ≤ a ∧ a.toNat < r.length) {a : Int} (h0 : 0 ≤ a) (h1 : a.toNat < r.length) : (c.map (imgL r)).count (imgL r a) = c.count a := by
 induction c with
 | nil => rfl
 | cons x c ih =>
  rw [List.map_cons, List.count_cons, List.count_cons, ih (fun y hy => hc y (List.mem_cons_of_mem _ hy))]
  have hx := hc x List.mem_cons_self
  by_cases e : x = a
  ·subst e; simp
  ·have : imgL r x ≠ imgL r a := fun e2 => e (by rw [← preL_img h hx.1 hx.2, e2, preL_img h h0 h1])
   simp [e, this]
/-- How many configurations have a label so often. -/
def cntL (l : List (List Int)) (a : Int) (k : Nat) : Nat := l.countP fun x => decide (x.count a = k)
theorem cntL_same {srt : List Int → List Int} (hsp : ∀ l, (srt l).Perm l) {ns ms : List (List Int)} {r : List Int} (hr : r.Nodup) (hns : ∀ c ∈ ns, ∀ a ∈ c, 0 ≤ a ∧ a.toNat < r.length) (hn : ns.Nodup) (hl : ns.length = ms.length)
  (hsort : ∀ x ∈ ns, ∀ y ∈ ns, x.Perm y → x = y) (hm : ∀ c ∈ ns, srt (c.map (imgL r)) ∈ ms) (a : Int) (h0 : 0 ≤ a) (h1 : a.toNat < r.length) (k : Nat) : cntL ns a k = cntL ms (imgL r a) k := by
 have inj : ∀ x ∈ ns, ∀ y ∈ ns, srt (x.map (imgL r)) = srt (y.map (imgL r)) → x = y := by
  intro x hx y hy e
  have h2 : (x.map (imgL r)).Perm (y.map (imgL r)) := (hsp _).symm.trans (e ▸ hsp _)
  have h3 := h2.map (preL r)
  rw [preL_map hr (hns x hx), preL_map hr (hns y hy)] at h3
  exact hsort x hx y hy h3
 have nd : ∀ l : List (List Int), l.Nodup → (∀ x ∈ l, x ∈ ns) → (l.map fun c => srt (c.map (imgL r))).Nodup := by
  intro l
  induction l with
  | nil => intro _ _; simp
  | cons x l ih =>
   intro h hs
   rw [List.nodup_cons] at h
   rw [List.map_cons, List.nodup_cons]
   refine ⟨fun hc => ?_, ih h.2 fun y hy => hs y (List.mem_cons_of_mem _ hy)⟩
   obtain ⟨y, hy, e⟩ := List.mem_map.1 hc
   have := inj y (hs y (List.mem_cons_of_mem _ hy)) x (hs x List.mem_cons_self) e
   exact h.1 (this ▸ hy)
 have hp : (ns.map fun c => srt (c.map (imgL r))).Perm ms := perm_of_sub _ _ (nd ns hn fun _ h => h) (fun x hx => by obtain ⟨c, hc, rfl⟩ := List.mem_map.1 hx; exact hm c hc) (by rw [List.length_map]; exact hl)
 unfold cntL
 rw [← hp.countP_eq, List.countP_map]
 refine List.countP_congr fun c hc => ?_
 simp only [Function.comp_def, decide_eq_true_eq]
 rw [(hsp _).count_eq, count_img hr (hns c hc) h0 h1]
/-- A search, number by number. -/
def dfs (n : Nat) (cond : List Int → Nat → Bool) : Nat → List Int → Option (List Int)
 | 0, π => some π
 | m + 1, π => (List.range n).findSome? fun (b : Nat) => if (!π.contains (b : Int) && cond π b) = true then dfs n cond m (π ++ [(b : Int)]) else none
theorem dfs_some (n : Nat) (cond : List Int → Nat → Bool) (Q : List Int → Prop) (hQ : ∀ π b, Q π → b < n → ¬ (b : Int) ∈ π → cond π b = true → Q (π ++ [(b : Int)])) : ∀ (m : Nat) (π r : List Int), dfs n cond m π = some r → Q π → Q r ∧ r.length = π.length + m ∧ ∃ d, r = π ++ d
 | 0, π, r, h, hq => by
  simp only [dfs, Option.some.injEq] at h
  subst h
  exact ⟨hq, rfl, [], by simp⟩
 | m + 1, π, r, h, hq => by
  simp only [dfs] at h
  obtain ⟨b, hb, h2⟩ := List.exists_of_findSome?_eq_some h
  have hb := List.mem_range.1 hb
  split at h2
  ·rename_i hc
   simp only [Bool.and_eq_true, Bool.not_eq_true', Bool.eq_false_iff, ne_eq, List.contains_iff_mem] at hc
   obtain ⟨h3, h4, d, h5⟩ := dfs_some n cond Q hQ m _ r h2 (hQ π b hq hb hc.1 hc.2)
   rw [List.length_append, List.length_singleton] at h4
   exact ⟨h3, by omega, [(b : Int)] ++ d, by rw [h5, List.append_assoc]⟩
  ·cases h2
theorem dfs_same (n : Nat) (c1 c2 : List Int → Nat → Bool) (Q : List Int → Prop) (hQ : ∀ π b, Q π → b < n → ¬ (b : Int) ∈ π → c1 π b = true → Q (π ++ [(b : Int)])) (h12 : ∀ π b, Q π → b < n → c2 π b = true → c1 π b = true)
  (hr : ∀ m π b r, Q π → b < n → ¬ (b : Int) ∈ π → c1 π b = true → π.length + 1 + m = n → dfs n c1 m (π ++ [(b : Int)]) = some r → c2 π b = true) :
  ∀ (m : Nat) (π : List Int), π.length + m = n → Q π → dfs n c1 m π = dfs n c2 m π
 | 0, _, _, _ => rfl
 | m + 1, π, hl, hq => by
  simp only [dfs]
  have key : ∀ b ∈ List.range n, (if (!π.contains (b : Int) && c1 π b) = true then dfs n c1 m (π ++ [(b : Int)]) else none) = (if (!π.contains (b : Int) && c2 π b) = true then dfs n c2 m (π ++ [(b : Int)]) else none) := by
   intro b hb
   have hb := List.mem_range.1 hb
   cases hcon : π.contains (b : Int) with
   | true => rfl
   | false =>
    have hni : ¬ (b : Int) ∈ π := by rw [← List.contains_iff_mem, hcon]; decide
    cases e1 : c1 π b with
    | false =>
     cases e2 : c2 π b with
     | false => rfl
     | true => rw [h12 π b hq hb e2] at e1; cases e1
    | true =>
     have ih := dfs_same n c1 c2 Q hQ h12 hr m (π ++ [(b : Int)]) (by rw [List.length_append, List.length_singleton]; omega) (hQ π b hq hb hni e1)
     cases e2 : c2 π b with
     | true => simp only [Bool.not_false, Bool.and_self, if_true]; exact ih
     | false =>
      cases e3 : dfs n c1 m (π ++ [(b : Int)]) with
      | none => simp
      | some r => rw [hr m π b r hq hb hni e1 (by omega) e3] at e2; cases e2
  have fs : ∀ (l : List Nat) (f g : Nat → Option (List Int)), (∀ b ∈ l, f b = g b) → l.findSome? f = l.findSome? g := by
   intro l f g
   induction l with
   | nil => intro _; rfl
   | cons x l ih => intro h; rw [List.findSome?_cons, List.findSome?_cons, h x List.mem_cons_self, ih fun b hb => h b (List.mem_cons_of_mem _ hb)]
  exact fs _ _ _ key

end Go.Proofs.Ytipfckompmhljaa
