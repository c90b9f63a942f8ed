/- Configurations looked up by halving and one by one, as membership. Conditions: the lists are short and increasing. -/
import Derived.Test.YtipfckompmhljaaL6
import Derived.Test.YtipfckompmhljaaSrt
namespace Go.Proofs.Ytipfckompmhljaa
open Go Dv
set_option linter.unusedSimpArgs false
set_option linter.unusedVariables false
set_option maxRecDepth 100000
set_option maxHeartbeats 4000000
theorem XB(x:Int): ∀r,(YH x r).Perm (x::r):=by
 intro r
 induction r with
 | nil=>exact List.Perm.refl _
 | cons y r ih=>
  unfold YH;split
  ·exact((List.perm_cons y).2 ih).trans (List.Perm.swap x y r)
  ·exact List.Perm.refl _
theorem ky(x:Int): ∀r,r.Pairwise (fun a b=>b≤a)→(YH x r).Pairwise (fun a b=>b≤a):=by
 intro r
 induction r with
 | nil=>intro _;simp [YH]
 | cons y r ih=>
  intro h;obtain⟨h1,h2⟩:=List.pairwise_cons.1 h;unfold YH;split
  ·rename_i hxy
   refine List.pairwise_cons.2 ⟨fun z hz=> ?_,ih h2⟩;rcases List.mem_cons.1 ((XB x r).mem_iff.1 hz)with rfl | hz
   ·omega
   ·exact h1 z hz
  ·rename_i hxy
   refine List.pairwise_cons.2 ⟨fun z hz=> ?_,h⟩;rcases List.mem_cons.1 hz with rfl | hz
   ·omega
   ·have:=h1 z hz;omega
theorem gL: ∀(l r:List Int),(l.foldl (fun r x=>YH x r) r).Perm (l++r):=by
 intro l
 induction l with
 | nil=>intro r;exact List.Perm.refl _
 | cons x l ih=>
  intro r;simp only [List.foldl_cons]
  exact(ih _).trans (((List.Perm.refl l).append (XB x r)).trans List.perm_middle)
theorem gM: ∀(l r:List Int),r.Pairwise (fun a b=>b≤a)→(l.foldl (fun r x=>YH x r) r).Pairwise (fun a b=>b≤a):=by
 intro l
 induction l with
 | nil=>intro r h;exact h
 | cons x l ih=>intro r h;exact ih _ (ky x r h)
theorem PQ(l:List Int):(SB l).Perm l:=by
 unfold SB;have:=gL l []
 rw [List.append_nil]at this
 exact(List.reverse_perm _).trans this
theorem Ue(l:List Int):(SB l).Pairwise (fun a b=>a≤b):=by
 unfold SB;exact List.pairwise_reverse.2 (gM l [] List.Pairwise.nil)
theorem qB(l:List Int):JD l=SB l:=by
 refine List.Perm.eq_of_pairwise (le:=fun a b:Int=>a≤b) (fun a b _ _ h1 h2=>Int.le_antisymm h1 h2) ?_ (Ue l) ((List.mergeSort_perm _ _).trans (PQ l).symm);have:=List.pairwise_mergeSort (le:=fun x y:Int=>decide (x≤y)) (fun a b c h1 h2=>by simp only [decide_eq_true_eq]at*;omega) (fun a b=>by simp only [Bool.or_eq_true,decide_eq_true_eq];omega) l
 unfold JD;exact this.imp (fun h=>by simpa using h)
theorem kz(l:List Int):(SB l).length=l.length:=(PQ l).length_eq
end Go.Proofs.Ytipfckompmhljaa
