/- Configurations looked up by halving and one by one, as membership. Conditions: the lists are short and increasing. -/
import Derived.Test.YtjkgcfdcfjkkbaaL6
import Derived.Test.YtjkgcfdcfjkkbaaSrt
namespace Go.Proofs.Ytjkgcfdcfjkkbaa
open Go Dv
set_option linter.unusedSimpArgs false
set_option linter.unusedVariables false
set_option maxRecDepth 100000
set_option maxHeartbeats 4000000

theorem insR_perm (x : Int) : ∀ r, (insR x r).Perm (x :: r) := by
 intro r
 induction r with
 | nil => exact List.Perm.refl _
 | cons y r ih =>
  unfold insR
  split
  ·exact ((List.perm_cons y).2 ih).trans (List.Perm.swap x y r)
  ·exact List.Perm.refl _
theorem insR_pair (x : Int) : ∀ r, r.Pairwise (fun a b => b ≤ a) → (insR x r).Pairwise (fun a b => b ≤ a) := by
 intro r
 induction r with
 | nil => intro _; simp [insR]
 | cons y r ih =>
  intro h
  obtain ⟨h1, h2⟩ := List.pairwise_cons.1 h
  unfold insR
  split
  ·rename_i hxy
   refine List.pairwise_cons.2 ⟨fun z hz => ?_, ih h2⟩
   rcases List.mem_cons.1 ((insR_perm x r).mem_iff.1 hz) with rfl | hz
   ·omega
   ·exact h1 z hz
  ·rename_i hxy
   refine List.pairwise_cons.2 ⟨fun z hz => ?_, h⟩
   rcases List.mem_cons.1 hz with rfl | hz
   ·omega
   ·have := h1 z hz; omega
theorem foldR_perm : ∀ (l r : List Int), (l.foldl (fun r x => insR x r) r).Perm (l ++ r) := by
 intro l
 induction l with
 | nil => intro r; exact List.Perm.refl _
 | cons x l ih =>
  intro r
  simp only [List.foldl_cons]
  exact (ih _).trans (((List.Perm.refl l).append (insR_perm x r)).trans List.perm_middle)
theorem foldR_pair : ∀ (l r : List Int), r.Pairwise (fun a b => b ≤ a) → (l.foldl (fun r x => insR x r) r).Pairwise (fun a b => b ≤ a) := by
 intro l
 induction l with
 | nil => intro r h; exact h
 | cons x l ih => intro r h; exact ih _ (insR_pair x r h)
theorem sortI_perm (l : List Int) : (sortI l).Perm l := by
 unfold sortI
 have := foldR_perm l []
 rw [List.append_nil] at this
 exact (List.reverse_perm _).trans this
theorem sortI_pair (l : List Int) : (sortI l).Pairwise (fun a b => a ≤ b) := by
 unfold sortI
 exact List.pairwise_reverse.2 (foldR_pair l [] List.Pairwise.nil)
theorem sortM_eq (l : List Int) : sortM l = sortI l := by
 refine List.Perm.eq_of_pairwise (le := fun a b : Int => a ≤ b) (fun a b _ _ h1 h2 => Int.le_antisymm h1 h2) ?_ (sortI_pair l) ((List.mergeSort_perm _ _).trans (sortI_perm l).symm)
 have := List.pairwise_mergeSort (le := fun x y : Int => decide (x ≤ y)) (fun a b c h1 h2 => by simp only [decide_eq_true_eq] at *; omega) (fun a b => by simp only [Bool.or_eq_true, decide_eq_true_eq]; omega) l
 unfold sortM
 exact this.imp (fun h => by simpa using h)
theorem sortI_len (l : List Int) : (sortI l).length = l.length := (sortI_perm l).length_eq
noncomputable def g_slices_Values_Sint_int (s_ : List Int) : Option ((List Int)) :=
 some s_
/-- slices.Values[[]int,int] -/
def k44 : SC :=
 .seq
 (.ops [
 ⟨(some 1), (.box 23 (.tmp 0)), 0, none⟩,
 ⟨(some 2), (.assign (.const .nilFunc)), 72, none⟩])
 (.seq
 (.ops [
 ⟨(some 3), (.makeFunc (Fn.func 82) #[] #[(.tmp 1)]), 71, none⟩,
 ⟨(some 2), (.assign (.tmp 3)), 72, none⟩])
 .ret)
theorem slim44 : Try.f44.body.map (slim lends) = some k44 := by kernel_rfl
theorem ok44 : fnOk Try.f44 1 = true := by kernel_rfl
theorem c44 {a l : List D} {r : D × List D} (h : wpD Y.env k44 (fin tys l.length [ResultVar.tmp 2] r) (entry a l)) (ha : a.length = 1) : Y.call 44 a l = some r :=
 call_slim (Y := Y) rfl Try.func44 (ha ▸ ok44) slim44 h
theorem g_slices_Values_Sint_int_call (s_ : List Int) {r : (List Int)} (h : g_slices_Values_Sint_int s_ = some r) : Y.call 44 [D.sl 3 (lst (D.int .i64) s_)] [] = some (D.clo 82 [D.cptr [D.sl 3 (lst (D.int .i64) r)]], []) := by
 refine c44 ?_ rfl
 unfold k44
 unfold g_slices_Values_Sint_int at h
 obtain rfl := Option.some.inj h
 simp (maxDischargeDepth := 9) only [↓xpre, xpost, xlst, xc2, xcore, yset, rg0, ↓reduceIte, Nat.reduceEqDiff, Nat.reduceLT, Nat.reduceLeDiff, Nat.reduceAdd, Nat.reduceMul, Nat.reduceMod, Nat.reduceSub, Nat.reduceBEq, Int.reduceLE, Int.reduceLT, Int.reduceEq, Int.reduceSub, Int.reduceAdd, Int.reduceToNat, Int.reduceNeg] <;> (repeat' apply And.intro) <;> first | rfl | exact ⟨_, rfl⟩ | simp [lst, cat2_nil]

end Go.Proofs.Ytjkgcfdcfjkkbaa
